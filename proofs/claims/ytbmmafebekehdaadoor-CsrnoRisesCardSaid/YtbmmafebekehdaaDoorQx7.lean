/- Where the Lean function of a Go function gives a value, the Go call returns that value and changes nothing that was there: for every input. (By a program of this session, and by hand.) -/
import Derived.Test.YtbmmafebekehdaaDoorQx0
import Derived.Test.YtbmmafebekehdaaDoorQx5
namespace Go.Proofs.YtbmmafebekehdaaDoor.Q
open Go.RowKit Go.Proofs.YtbmmafebekehdaaDoorW.PrintWords Go.Proofs.YtbmmafebekehdaaDoorW.PrintLast Go.Proofs.YtbmmafebekehdaaDoorW.PrintMore
attribute [local go_sem] max2_int min2_int max_two min_two max_three min_three max_four min_four   -- for this text's walks alone
set_option linter.unusedVariables false
set_option linter.unusedSimpArgs false

/-! ### mezzanineref11_Check: function 16 -/
mutual
def mezzanineref11_Check.j0 : Nat → Int → Bool → Int → Int → Int → Int → Int → Int → Int → Int → Int → Int → Int → Int → Int → Int → Int → Int → Int → Int → Int → Int → Int → Int → Int → Int → Int → Int → Int → Int → Int → Int → Int → Int → Int → Int → Bool → Bool → Bool → Int → Int → Int → Int → Int → Int → Int → Int → Int → Int → Int → Int → Int → Int → Int → Int → Int → Int → Int → Int → Int → Int → Int → Int → Int → Int → Int → Int → Int → Int → Int → Int → Int → Int → Int → Int → Int → Int → Int → Int → Option (Int)
  | 0, _, _, _, _, _, _, _, _, _, _, _, _, _, _, _, _, _, _, _, _, _, _, _, _, _, _, _, _, _, _, _, _, _, _, _, _, _, _, _, _, _, _, _, _, _, _, _, _, _, _, _, _, _, _, _, _, _, _, _, _, _, _, _, _, _, _, _, _, _, _, _, _, _, _, _, _, _, _, _ => none
  | k + 1, x1, x16, x116000, x116001, x116002, x116003, x116004, x116005, x116006, x116007, x116008, x116009, x116010, x116011, x116012, x116013, x116014, x116015, x116016, x116017, x116018, x116019, x116020, x116021, x116022, x116023, x116024, x116025, x116026, x116027, x116028, x116029, x116030, x116031, x116032, x116033, x116034, x116035, x116036, x116037, x116038, x116039, x116040, x116041, x116042, x116043, x116044, x116045, x116046, x116047, x116048, x116049, x116050, x116051, x116052, x116053, x116054, x116055, x116056, x116057, x116058, x116059, x116060, x116061, x116062, x116063, x116064, x116065, x116066, x116067, x116068, x116069, x116070, x116071, x116072, x116073, x116074, x116075, x116076 => if x16 = true then (some 2) else (if x116033 = 0 then (mezzanineref11_Check.j1 k x1 false x116000 x116001 x116002 x116003 x116004 x116005 x116006 x116007 x116008 x116009 x116010 x116011 x116012 x116013 x116014 x116015 x116016 x116017 x116018 x116019 x116020 x116021 x116022 x116023 x116024 x116025 x116026 x116027 x116028 x116029 x116030 x116031 x116032 x116033 x116034 x116035 x116036 x116037 x116038 x116039 x116040 x116041 x116042 x116043 x116044 x116045 x116046 x116047 x116048 x116049 x116050 x116051 x116052 x116053 x116054 x116055 x116056 x116057 x116058 x116059 x116060 x116061 x116062 x116063 x116064 x116065 x116066 x116067 x116068 x116069 x116070 x116071 x116072 x116073 x116074 x116075 x116076) else (mezzanineref11_Check.j1 k x1 (x116033 != 1) x116000 x116001 x116002 x116003 x116004 x116005 x116006 x116007 x116008 x116009 x116010 x116011 x116012 x116013 x116014 x116015 x116016 x116017 x116018 x116019 x116020 x116021 x116022 x116023 x116024 x116025 x116026 x116027 x116028 x116029 x116030 x116031 x116032 x116033 x116034 x116035 x116036 x116037 x116038 x116039 x116040 x116041 x116042 x116043 x116044 x116045 x116046 x116047 x116048 x116049 x116050 x116051 x116052 x116053 x116054 x116055 x116056 x116057 x116058 x116059 x116060 x116061 x116062 x116063 x116064 x116065 x116066 x116067 x116068 x116069 x116070 x116071 x116072 x116073 x116074 x116075 x116076))
def mezzanineref11_Check.j1 : Nat → Int → Bool → Int → Int → Int → Int → Int → Int → Int → Int → Int → Int → Int → Int → Int → Int → Int → Int → Int → Int → Int → Int → Int → Int → Int → Int → Int → Int → Int → Int → Int → Int → Int → Int → Int → Int → Bool → Bool → Bool → Int → Int → Int → Int → Int → Int → Int → Int → Int → Int → Int → Int → Int → Int → Int → Int → Int → Int → Int → Int → Int → Int → Int → Int → Int → Int → Int → Int → Int → Int → Int → Int → Int → Int → Int → Int → Int → Int → Int → Int → Option (Int)
  | 0, _, _, _, _, _, _, _, _, _, _, _, _, _, _, _, _, _, _, _, _, _, _, _, _, _, _, _, _, _, _, _, _, _, _, _, _, _, _, _, _, _, _, _, _, _, _, _, _, _, _, _, _, _, _, _, _, _, _, _, _, _, _, _, _, _, _, _, _, _, _, _, _, _, _, _, _, _, _, _ => none
  | k + 1, x1, x24, x116000, x116001, x116002, x116003, x116004, x116005, x116006, x116007, x116008, x116009, x116010, x116011, x116012, x116013, x116014, x116015, x116016, x116017, x116018, x116019, x116020, x116021, x116022, x116023, x116024, x116025, x116026, x116027, x116028, x116029, x116030, x116031, x116032, x116033, x116034, x116035, x116036, x116037, x116038, x116039, x116040, x116041, x116042, x116043, x116044, x116045, x116046, x116047, x116048, x116049, x116050, x116051, x116052, x116053, x116054, x116055, x116056, x116057, x116058, x116059, x116060, x116061, x116062, x116063, x116064, x116065, x116066, x116067, x116068, x116069, x116070, x116071, x116072, x116073, x116074, x116075, x116076 => if x24 = true then (some 0) else (if x1 = 3072 then (mezzanineref11_Check.j2 k x1 true x116000 x116001 x116002 x116003 x116004 x116005 x116006 x116007 x116008 x116009 x116010 x116011 x116012 x116013 x116014 x116015 x116016 x116017 x116018 x116019 x116020 x116021 x116022 x116023 x116024 x116025 x116026 x116027 x116028 x116029 x116030 x116031 x116032 x116033 x116034 x116035 x116036 x116037 x116038 x116039 x116040 x116041 x116042 x116043 x116044 x116045 x116046 x116047 x116048 x116049 x116050 x116051 x116052 x116053 x116054 x116055 x116056 x116057 x116058 x116059 x116060 x116061 x116062 x116063 x116064 x116065 x116066 x116067 x116068 x116069 x116070 x116071 x116072 x116073 x116074 x116075 x116076) else (if x1 = 3073 then (mezzanineref11_Check.j2 k x1 true x116000 x116001 x116002 x116003 x116004 x116005 x116006 x116007 x116008 x116009 x116010 x116011 x116012 x116013 x116014 x116015 x116016 x116017 x116018 x116019 x116020 x116021 x116022 x116023 x116024 x116025 x116026 x116027 x116028 x116029 x116030 x116031 x116032 x116033 x116034 x116035 x116036 x116037 x116038 x116039 x116040 x116041 x116042 x116043 x116044 x116045 x116046 x116047 x116048 x116049 x116050 x116051 x116052 x116053 x116054 x116055 x116056 x116057 x116058 x116059 x116060 x116061 x116062 x116063 x116064 x116065 x116066 x116067 x116068 x116069 x116070 x116071 x116072 x116073 x116074 x116075 x116076) else (mezzanineref11_Check.j2 k x1 (x1 == 3074) x116000 x116001 x116002 x116003 x116004 x116005 x116006 x116007 x116008 x116009 x116010 x116011 x116012 x116013 x116014 x116015 x116016 x116017 x116018 x116019 x116020 x116021 x116022 x116023 x116024 x116025 x116026 x116027 x116028 x116029 x116030 x116031 x116032 x116033 x116034 x116035 x116036 x116037 x116038 x116039 x116040 x116041 x116042 x116043 x116044 x116045 x116046 x116047 x116048 x116049 x116050 x116051 x116052 x116053 x116054 x116055 x116056 x116057 x116058 x116059 x116060 x116061 x116062 x116063 x116064 x116065 x116066 x116067 x116068 x116069 x116070 x116071 x116072 x116073 x116074 x116075 x116076)))
def mezzanineref11_Check.j2 : Nat → Int → Bool → Int → Int → Int → Int → Int → Int → Int → Int → Int → Int → Int → Int → Int → Int → Int → Int → Int → Int → Int → Int → Int → Int → Int → Int → Int → Int → Int → Int → Int → Int → Int → Int → Int → Int → Bool → Bool → Bool → Int → Int → Int → Int → Int → Int → Int → Int → Int → Int → Int → Int → Int → Int → Int → Int → Int → Int → Int → Int → Int → Int → Int → Int → Int → Int → Int → Int → Int → Int → Int → Int → Int → Int → Int → Int → Int → Int → Int → Int → Option (Int)
  | 0, _, _, _, _, _, _, _, _, _, _, _, _, _, _, _, _, _, _, _, _, _, _, _, _, _, _, _, _, _, _, _, _, _, _, _, _, _, _, _, _, _, _, _, _, _, _, _, _, _, _, _, _, _, _, _, _, _, _, _, _, _, _, _, _, _, _, _, _, _, _, _, _, _, _, _, _, _, _, _ => none
  | k + 1, x1, x34, x116000, x116001, x116002, x116003, x116004, x116005, x116006, x116007, x116008, x116009, x116010, x116011, x116012, x116013, x116014, x116015, x116016, x116017, x116018, x116019, x116020, x116021, x116022, x116023, x116024, x116025, x116026, x116027, x116028, x116029, x116030, x116031, x116032, x116033, x116034, x116035, x116036, x116037, x116038, x116039, x116040, x116041, x116042, x116043, x116044, x116045, x116046, x116047, x116048, x116049, x116050, x116051, x116052, x116053, x116054, x116055, x116056, x116057, x116058, x116059, x116060, x116061, x116062, x116063, x116064, x116065, x116066, x116067, x116068, x116069, x116070, x116071, x116072, x116073, x116074, x116075, x116076 => if x34 = true then (if 0 ≤ (IntKind.u64.wrap (wrap64 (x1 - 3072))) then (if (Go.bits .and .u64 x116044 (shl .u64 1 (IntKind.u64.wrap (wrap64 (x1 - 3072))))) = 0 then (some 2) else (if x116034 = true then (if (Go.bits .and .u64 x116062 (shl .u64 1 (IntKind.u64.wrap (wrap64 (x1 - 3072))))) = 0 then (some 22) else (if x116033 = 0 then (mezzanineref11_Check.j3 k ((Go.bits .and .u64 x116052 (shl .u64 1 (IntKind.u64.wrap (wrap64 (x1 - 3072))))) == 0)) else (mezzanineref11_Check.j3 k false))) else (if x116033 = 0 then (if (Go.bits .and .u64 x116052 (shl .u64 1 (IntKind.u64.wrap (wrap64 (x1 - 3072))))) = 0 then (some 2) else (some 0)) else (some 0)))) else (none)) else (if (Int.tmod (wrap64 (Int.tdiv x1 256)) 4) = 3 then (mezzanineref11_Check.j4 k x1 (Int.tmod (wrap64 (Int.tdiv x1 256)) 4) true x116000 x116001 x116002 x116003 x116004 x116005 x116006 x116007 x116008 x116009 x116010 x116011 x116012 x116013 x116014 x116015 x116016 x116017 x116018 x116019 x116020 x116021 x116022 x116023 x116024 x116025 x116026 x116027 x116028 x116029 x116030 x116031 x116032 x116033 x116034 x116035 x116036 x116037 x116038 x116039 x116040 x116041 x116042 x116043 x116044 x116045 x116046 x116047 x116048 x116049 x116050 x116051 x116052 x116053 x116054 x116055 x116056 x116057 x116058 x116059 x116060 x116061 x116062 x116063 x116064 x116065 x116066 x116067 x116068 x116069 x116070 x116071 x116072 x116073 x116074 x116075 x116076) else (mezzanineref11_Check.j4 k x1 (Int.tmod (wrap64 (Int.tdiv x1 256)) 4) ((Int.tmod (wrap64 (Int.tdiv x1 256)) 4) == 0) x116000 x116001 x116002 x116003 x116004 x116005 x116006 x116007 x116008 x116009 x116010 x116011 x116012 x116013 x116014 x116015 x116016 x116017 x116018 x116019 x116020 x116021 x116022 x116023 x116024 x116025 x116026 x116027 x116028 x116029 x116030 x116031 x116032 x116033 x116034 x116035 x116036 x116037 x116038 x116039 x116040 x116041 x116042 x116043 x116044 x116045 x116046 x116047 x116048 x116049 x116050 x116051 x116052 x116053 x116054 x116055 x116056 x116057 x116058 x116059 x116060 x116061 x116062 x116063 x116064 x116065 x116066 x116067 x116068 x116069 x116070 x116071 x116072 x116073 x116074 x116075 x116076))
def mezzanineref11_Check.j3 : Nat → Bool → Option (Int)
  | 0, _ => none
  | k + 1, x60 => if x60 = true then (some 22) else (some 0)
def mezzanineref11_Check.j4 : Nat → Int → Int → Bool → Int → Int → Int → Int → Int → Int → Int → Int → Int → Int → Int → Int → Int → Int → Int → Int → Int → Int → Int → Int → Int → Int → Int → Int → Int → Int → Int → Int → Int → Int → Int → Int → Int → Int → Bool → Bool → Bool → Int → Int → Int → Int → Int → Int → Int → Int → Int → Int → Int → Int → Int → Int → Int → Int → Int → Int → Int → Int → Int → Int → Int → Int → Int → Int → Int → Int → Int → Int → Int → Int → Int → Int → Int → Int → Int → Int → Int → Int → Option (Int)
  | 0, _, _, _, _, _, _, _, _, _, _, _, _, _, _, _, _, _, _, _, _, _, _, _, _, _, _, _, _, _, _, _, _, _, _, _, _, _, _, _, _, _, _, _, _, _, _, _, _, _, _, _, _, _, _, _, _, _, _, _, _, _, _, _, _, _, _, _, _, _, _, _, _, _, _, _, _, _, _, _, _ => none
  | k + 1, x1, x8, x79, x116000, x116001, x116002, x116003, x116004, x116005, x116006, x116007, x116008, x116009, x116010, x116011, x116012, x116013, x116014, x116015, x116016, x116017, x116018, x116019, x116020, x116021, x116022, x116023, x116024, x116025, x116026, x116027, x116028, x116029, x116030, x116031, x116032, x116033, x116034, x116035, x116036, x116037, x116038, x116039, x116040, x116041, x116042, x116043, x116044, x116045, x116046, x116047, x116048, x116049, x116050, x116051, x116052, x116053, x116054, x116055, x116056, x116057, x116058, x116059, x116060, x116061, x116062, x116063, x116064, x116065, x116066, x116067, x116068, x116069, x116070, x116071, x116072, x116073, x116074, x116075, x116076 => if x79 = true then (some 2) else (if x116034 = true then (if x116033 = 0 then (mezzanineref11_Check.j5 k x1 true x116000 x116001 x116002 x116003 x116004 x116005 x116006 x116007 x116008 x116009 x116010 x116011 x116012 x116013 x116014 x116015 x116016 x116017 x116018 x116019 x116020 x116021 x116022 x116023 x116024 x116025 x116026 x116027 x116028 x116029 x116030 x116031 x116032 x116033 x116034 x116035 x116036 x116037 x116038 x116039 x116040 x116041 x116042 x116043 x116044 x116045 x116046 x116047 x116048 x116049 x116050 x116051 x116052 x116053 x116054 x116055 x116056 x116057 x116058 x116059 x116060 x116061 x116062 x116063 x116064 x116065 x116066 x116067 x116068 x116069 x116070 x116071 x116072 x116073 x116074 x116075 x116076) else (mezzanineref11_Check.j5 k x1 (x8 == 2) x116000 x116001 x116002 x116003 x116004 x116005 x116006 x116007 x116008 x116009 x116010 x116011 x116012 x116013 x116014 x116015 x116016 x116017 x116018 x116019 x116020 x116021 x116022 x116023 x116024 x116025 x116026 x116027 x116028 x116029 x116030 x116031 x116032 x116033 x116034 x116035 x116036 x116037 x116038 x116039 x116040 x116041 x116042 x116043 x116044 x116045 x116046 x116047 x116048 x116049 x116050 x116051 x116052 x116053 x116054 x116055 x116056 x116057 x116058 x116059 x116060 x116061 x116062 x116063 x116064 x116065 x116066 x116067 x116068 x116069 x116070 x116071 x116072 x116073 x116074 x116075 x116076)) else (if x116033 = 0 then (some 2) else (if x1 = 384 then (if (Go.bits .and .u64 (x116038 / 1048576) 1) = 1 then (some 2) else (some 0)) else (if x1 = 1664 then (if (Go.bits .and .u64 (x116038 / 1048576) 1) = 1 then (some 2) else (some 0)) else (some 0)))))
def mezzanineref11_Check.j5 : Nat → Int → Bool → Int → Int → Int → Int → Int → Int → Int → Int → Int → Int → Int → Int → Int → Int → Int → Int → Int → Int → Int → Int → Int → Int → Int → Int → Int → Int → Int → Int → Int → Int → Int → Int → Int → Int → Bool → Bool → Bool → Int → Int → Int → Int → Int → Int → Int → Int → Int → Int → Int → Int → Int → Int → Int → Int → Int → Int → Int → Int → Int → Int → Int → Int → Int → Int → Int → Int → Int → Int → Int → Int → Int → Int → Int → Int → Int → Int → Int → Int → Option (Int)
  | 0, _, _, _, _, _, _, _, _, _, _, _, _, _, _, _, _, _, _, _, _, _, _, _, _, _, _, _, _, _, _, _, _, _, _, _, _, _, _, _, _, _, _, _, _, _, _, _, _, _, _, _, _, _, _, _, _, _, _, _, _, _, _, _, _, _, _, _, _, _, _, _, _, _, _, _, _, _, _, _ => none
  | k + 1, x1, x88, x116000, x116001, x116002, x116003, x116004, x116005, x116006, x116007, x116008, x116009, x116010, x116011, x116012, x116013, x116014, x116015, x116016, x116017, x116018, x116019, x116020, x116021, x116022, x116023, x116024, x116025, x116026, x116027, x116028, x116029, x116030, x116031, x116032, x116033, x116034, x116035, x116036, x116037, x116038, x116039, x116040, x116041, x116042, x116043, x116044, x116045, x116046, x116047, x116048, x116049, x116050, x116051, x116052, x116053, x116054, x116055, x116056, x116057, x116058, x116059, x116060, x116061, x116062, x116063, x116064, x116065, x116066, x116067, x116068, x116069, x116070, x116071, x116072, x116073, x116074, x116075, x116076 => if x88 = true then (some 22) else (if x1 = 384 then (if (Go.bits .and .u64 (x116058 / 1048576) 1) = 1 then (some 22) else (some 0)) else (some 0))
end
def mezzanineref11_Check.f (k : Nat) (a0_0 : Int) (a0_1 : Int) (a0_2 : Int) (a0_3 : Int) (a0_4 : Int) (a0_5 : Int) (a0_6 : Int) (a0_7 : Int) (a0_8 : Int) (a0_9 : Int) (a0_10 : Int) (a0_11 : Int) (a0_12 : Int) (a0_13 : Int) (a0_14 : Int) (a0_15 : Int) (a0_16 : Int) (a0_17 : Int) (a0_18 : Int) (a0_19 : Int) (a0_20 : Int) (a0_21 : Int) (a0_22 : Int) (a0_23 : Int) (a0_24 : Int) (a0_25 : Int) (a0_26 : Int) (a0_27 : Int) (a0_28 : Int) (a0_29 : Int) (a0_30 : Int) (a0_31 : Int) (a0_32 : Int) (a0_33 : Int) (a0_34 : Bool) (a0_35 : Bool) (a0_36 : Bool) (a0_37 : Int) (a0_38 : Int) (a0_39 : Int) (a0_40 : Int) (a0_41 : Int) (a0_42 : Int) (a0_43 : Int) (a0_44 : Int) (a0_45 : Int) (a0_46 : Int) (a0_47 : Int) (a0_48 : Int) (a0_49 : Int) (a0_50 : Int) (a0_51 : Int) (a0_52 : Int) (a0_53 : Int) (a0_54 : Int) (a0_55 : Int) (a0_56 : Int) (a0_57 : Int) (a0_58 : Int) (a0_59 : Int) (a0_60 : Int) (a0_61 : Int) (a0_62 : Int) (a0_63 : Int) (a0_64 : Int) (a0_65 : Int) (a0_66 : Int) (a0_67 : Int) (a0_68 : Int) (a0_69 : Int) (a0_70 : Int) (a0_71 : Int) (a0_72 : Int) (a0_73 : Int) (a0_74 : Int) (a0_75 : Int) (a0_76 : Int) (a1 : Int) (a2 : Bool) : Option (Int) := (mezzanineref11_Name.f a1).bind fun t116 => (if t116.toList = ([] : List UInt8) then (some 2) else (if a2 = true then (mezzanineref11_Check.j0 k a1 (decide (a1 ≥ 3072)) a0_0 a0_1 a0_2 a0_3 a0_4 a0_5 a0_6 a0_7 a0_8 a0_9 a0_10 a0_11 a0_12 a0_13 a0_14 a0_15 a0_16 a0_17 a0_18 a0_19 a0_20 a0_21 a0_22 a0_23 a0_24 a0_25 a0_26 a0_27 a0_28 a0_29 a0_30 a0_31 a0_32 a0_33 a0_34 a0_35 a0_36 a0_37 a0_38 a0_39 a0_40 a0_41 a0_42 a0_43 a0_44 a0_45 a0_46 a0_47 a0_48 a0_49 a0_50 a0_51 a0_52 a0_53 a0_54 a0_55 a0_56 a0_57 a0_58 a0_59 a0_60 a0_61 a0_62 a0_63 a0_64 a0_65 a0_66 a0_67 a0_68 a0_69 a0_70 a0_71 a0_72 a0_73 a0_74 a0_75 a0_76) else (mezzanineref11_Check.j0 k a1 false a0_0 a0_1 a0_2 a0_3 a0_4 a0_5 a0_6 a0_7 a0_8 a0_9 a0_10 a0_11 a0_12 a0_13 a0_14 a0_15 a0_16 a0_17 a0_18 a0_19 a0_20 a0_21 a0_22 a0_23 a0_24 a0_25 a0_26 a0_27 a0_28 a0_29 a0_30 a0_31 a0_32 a0_33 a0_34 a0_35 a0_36 a0_37 a0_38 a0_39 a0_40 a0_41 a0_42 a0_43 a0_44 a0_45 a0_46 a0_47 a0_48 a0_49 a0_50 a0_51 a0_52 a0_53 a0_54 a0_55 a0_56 a0_57 a0_58 a0_59 a0_60 a0_61 a0_62 a0_63 a0_64 a0_65 a0_66 a0_67 a0_68 a0_69 a0_70 a0_71 a0_72 a0_73 a0_74 a0_75 a0_76)))
theorem mezzanineref11_Check.mono_l : ∀ k, (∀ y0 y1 y2 y3 y4 y5 y6 y7 y8 y9 y10 y11 y12 y13 y14 y15 y16 y17 y18 y19 y20 y21 y22 y23 y24 y25 y26 y27 y28 y29 y30 y31 y32 y33 y34 y35 y36 y37 y38 y39 y40 y41 y42 y43 y44 y45 y46 y47 y48 y49 y50 y51 y52 y53 y54 y55 y56 y57 y58 y59 y60 y61 y62 y63 y64 y65 y66 y67 y68 y69 y70 y71 y72 y73 y74 y75 y76 y77 y78, LeO (mezzanineref11_Check.j0 k y0 y1 y2 y3 y4 y5 y6 y7 y8 y9 y10 y11 y12 y13 y14 y15 y16 y17 y18 y19 y20 y21 y22 y23 y24 y25 y26 y27 y28 y29 y30 y31 y32 y33 y34 y35 y36 y37 y38 y39 y40 y41 y42 y43 y44 y45 y46 y47 y48 y49 y50 y51 y52 y53 y54 y55 y56 y57 y58 y59 y60 y61 y62 y63 y64 y65 y66 y67 y68 y69 y70 y71 y72 y73 y74 y75 y76 y77 y78) (mezzanineref11_Check.j0 (k + 1) y0 y1 y2 y3 y4 y5 y6 y7 y8 y9 y10 y11 y12 y13 y14 y15 y16 y17 y18 y19 y20 y21 y22 y23 y24 y25 y26 y27 y28 y29 y30 y31 y32 y33 y34 y35 y36 y37 y38 y39 y40 y41 y42 y43 y44 y45 y46 y47 y48 y49 y50 y51 y52 y53 y54 y55 y56 y57 y58 y59 y60 y61 y62 y63 y64 y65 y66 y67 y68 y69 y70 y71 y72 y73 y74 y75 y76 y77 y78)) ∧ (∀ y0 y1 y2 y3 y4 y5 y6 y7 y8 y9 y10 y11 y12 y13 y14 y15 y16 y17 y18 y19 y20 y21 y22 y23 y24 y25 y26 y27 y28 y29 y30 y31 y32 y33 y34 y35 y36 y37 y38 y39 y40 y41 y42 y43 y44 y45 y46 y47 y48 y49 y50 y51 y52 y53 y54 y55 y56 y57 y58 y59 y60 y61 y62 y63 y64 y65 y66 y67 y68 y69 y70 y71 y72 y73 y74 y75 y76 y77 y78, LeO (mezzanineref11_Check.j1 k y0 y1 y2 y3 y4 y5 y6 y7 y8 y9 y10 y11 y12 y13 y14 y15 y16 y17 y18 y19 y20 y21 y22 y23 y24 y25 y26 y27 y28 y29 y30 y31 y32 y33 y34 y35 y36 y37 y38 y39 y40 y41 y42 y43 y44 y45 y46 y47 y48 y49 y50 y51 y52 y53 y54 y55 y56 y57 y58 y59 y60 y61 y62 y63 y64 y65 y66 y67 y68 y69 y70 y71 y72 y73 y74 y75 y76 y77 y78) (mezzanineref11_Check.j1 (k + 1) y0 y1 y2 y3 y4 y5 y6 y7 y8 y9 y10 y11 y12 y13 y14 y15 y16 y17 y18 y19 y20 y21 y22 y23 y24 y25 y26 y27 y28 y29 y30 y31 y32 y33 y34 y35 y36 y37 y38 y39 y40 y41 y42 y43 y44 y45 y46 y47 y48 y49 y50 y51 y52 y53 y54 y55 y56 y57 y58 y59 y60 y61 y62 y63 y64 y65 y66 y67 y68 y69 y70 y71 y72 y73 y74 y75 y76 y77 y78)) ∧ (∀ y0 y1 y2 y3 y4 y5 y6 y7 y8 y9 y10 y11 y12 y13 y14 y15 y16 y17 y18 y19 y20 y21 y22 y23 y24 y25 y26 y27 y28 y29 y30 y31 y32 y33 y34 y35 y36 y37 y38 y39 y40 y41 y42 y43 y44 y45 y46 y47 y48 y49 y50 y51 y52 y53 y54 y55 y56 y57 y58 y59 y60 y61 y62 y63 y64 y65 y66 y67 y68 y69 y70 y71 y72 y73 y74 y75 y76 y77 y78, LeO (mezzanineref11_Check.j2 k y0 y1 y2 y3 y4 y5 y6 y7 y8 y9 y10 y11 y12 y13 y14 y15 y16 y17 y18 y19 y20 y21 y22 y23 y24 y25 y26 y27 y28 y29 y30 y31 y32 y33 y34 y35 y36 y37 y38 y39 y40 y41 y42 y43 y44 y45 y46 y47 y48 y49 y50 y51 y52 y53 y54 y55 y56 y57 y58 y59 y60 y61 y62 y63 y64 y65 y66 y67 y68 y69 y70 y71 y72 y73 y74 y75 y76 y77 y78) (mezzanineref11_Check.j2 (k + 1) y0 y1 y2 y3 y4 y5 y6 y7 y8 y9 y10 y11 y12 y13 y14 y15 y16 y17 y18 y19 y20 y21 y22 y23 y24 y25 y26 y27 y28 y29 y30 y31 y32 y33 y34 y35 y36 y37 y38 y39 y40 y41 y42 y43 y44 y45 y46 y47 y48 y49 y50 y51 y52 y53 y54 y55 y56 y57 y58 y59 y60 y61 y62 y63 y64 y65 y66 y67 y68 y69 y70 y71 y72 y73 y74 y75 y76 y77 y78)) ∧ (∀ y0, LeO (mezzanineref11_Check.j3 k y0) (mezzanineref11_Check.j3 (k + 1) y0)) ∧ (∀ y0 y1 y2 y3 y4 y5 y6 y7 y8 y9 y10 y11 y12 y13 y14 y15 y16 y17 y18 y19 y20 y21 y22 y23 y24 y25 y26 y27 y28 y29 y30 y31 y32 y33 y34 y35 y36 y37 y38 y39 y40 y41 y42 y43 y44 y45 y46 y47 y48 y49 y50 y51 y52 y53 y54 y55 y56 y57 y58 y59 y60 y61 y62 y63 y64 y65 y66 y67 y68 y69 y70 y71 y72 y73 y74 y75 y76 y77 y78 y79, LeO (mezzanineref11_Check.j4 k y0 y1 y2 y3 y4 y5 y6 y7 y8 y9 y10 y11 y12 y13 y14 y15 y16 y17 y18 y19 y20 y21 y22 y23 y24 y25 y26 y27 y28 y29 y30 y31 y32 y33 y34 y35 y36 y37 y38 y39 y40 y41 y42 y43 y44 y45 y46 y47 y48 y49 y50 y51 y52 y53 y54 y55 y56 y57 y58 y59 y60 y61 y62 y63 y64 y65 y66 y67 y68 y69 y70 y71 y72 y73 y74 y75 y76 y77 y78 y79) (mezzanineref11_Check.j4 (k + 1) y0 y1 y2 y3 y4 y5 y6 y7 y8 y9 y10 y11 y12 y13 y14 y15 y16 y17 y18 y19 y20 y21 y22 y23 y24 y25 y26 y27 y28 y29 y30 y31 y32 y33 y34 y35 y36 y37 y38 y39 y40 y41 y42 y43 y44 y45 y46 y47 y48 y49 y50 y51 y52 y53 y54 y55 y56 y57 y58 y59 y60 y61 y62 y63 y64 y65 y66 y67 y68 y69 y70 y71 y72 y73 y74 y75 y76 y77 y78 y79)) ∧ (∀ y0 y1 y2 y3 y4 y5 y6 y7 y8 y9 y10 y11 y12 y13 y14 y15 y16 y17 y18 y19 y20 y21 y22 y23 y24 y25 y26 y27 y28 y29 y30 y31 y32 y33 y34 y35 y36 y37 y38 y39 y40 y41 y42 y43 y44 y45 y46 y47 y48 y49 y50 y51 y52 y53 y54 y55 y56 y57 y58 y59 y60 y61 y62 y63 y64 y65 y66 y67 y68 y69 y70 y71 y72 y73 y74 y75 y76 y77 y78, LeO (mezzanineref11_Check.j5 k y0 y1 y2 y3 y4 y5 y6 y7 y8 y9 y10 y11 y12 y13 y14 y15 y16 y17 y18 y19 y20 y21 y22 y23 y24 y25 y26 y27 y28 y29 y30 y31 y32 y33 y34 y35 y36 y37 y38 y39 y40 y41 y42 y43 y44 y45 y46 y47 y48 y49 y50 y51 y52 y53 y54 y55 y56 y57 y58 y59 y60 y61 y62 y63 y64 y65 y66 y67 y68 y69 y70 y71 y72 y73 y74 y75 y76 y77 y78) (mezzanineref11_Check.j5 (k + 1) y0 y1 y2 y3 y4 y5 y6 y7 y8 y9 y10 y11 y12 y13 y14 y15 y16 y17 y18 y19 y20 y21 y22 y23 y24 y25 y26 y27 y28 y29 y30 y31 y32 y33 y34 y35 y36 y37 y38 y39 y40 y41 y42 y43 y44 y45 y46 y47 y48 y49 y50 y51 y52 y53 y54 y55 y56 y57 y58 y59 y60 y61 y62 y63 y64 y65 y66 y67 y68 y69 y70 y71 y72 y73 y74 y75 y76 y77 y78))
  | 0 => ⟨fun _ _ _ _ _ _ _ _ _ _ _ _ _ _ _ _ _ _ _ _ _ _ _ _ _ _ _ _ _ _ _ _ _ _ _ _ _ _ _ _ _ _ _ _ _ _ _ _ _ _ _ _ _ _ _ _ _ _ _ _ _ _ _ _ _ _ _ _ _ _ _ _ _ _ _ _ _ _ _ r h => by simp [mezzanineref11_Check.j0] at h, fun _ _ _ _ _ _ _ _ _ _ _ _ _ _ _ _ _ _ _ _ _ _ _ _ _ _ _ _ _ _ _ _ _ _ _ _ _ _ _ _ _ _ _ _ _ _ _ _ _ _ _ _ _ _ _ _ _ _ _ _ _ _ _ _ _ _ _ _ _ _ _ _ _ _ _ _ _ _ _ r h => by simp [mezzanineref11_Check.j1] at h, fun _ _ _ _ _ _ _ _ _ _ _ _ _ _ _ _ _ _ _ _ _ _ _ _ _ _ _ _ _ _ _ _ _ _ _ _ _ _ _ _ _ _ _ _ _ _ _ _ _ _ _ _ _ _ _ _ _ _ _ _ _ _ _ _ _ _ _ _ _ _ _ _ _ _ _ _ _ _ _ r h => by simp [mezzanineref11_Check.j2] at h, fun _ r h => by simp [mezzanineref11_Check.j3] at h, fun _ _ _ _ _ _ _ _ _ _ _ _ _ _ _ _ _ _ _ _ _ _ _ _ _ _ _ _ _ _ _ _ _ _ _ _ _ _ _ _ _ _ _ _ _ _ _ _ _ _ _ _ _ _ _ _ _ _ _ _ _ _ _ _ _ _ _ _ _ _ _ _ _ _ _ _ _ _ _ _ r h => by simp [mezzanineref11_Check.j4] at h, fun _ _ _ _ _ _ _ _ _ _ _ _ _ _ _ _ _ _ _ _ _ _ _ _ _ _ _ _ _ _ _ _ _ _ _ _ _ _ _ _ _ _ _ _ _ _ _ _ _ _ _ _ _ _ _ _ _ _ _ _ _ _ _ _ _ _ _ _ _ _ _ _ _ _ _ _ _ _ _ r h => by simp [mezzanineref11_Check.j5] at h⟩
  | k + 1 => by
    obtain ⟨ih0, ih1, ih2, ih3, ih4, ih5⟩ := mezzanineref11_Check.mono_l k
    refine ⟨?_, ?_, ?_, ?_, ?_, ?_⟩
    · intro y0 y1 y2 y3 y4 y5 y6 y7 y8 y9 y10 y11 y12 y13 y14 y15 y16 y17 y18 y19 y20 y21 y22 y23 y24 y25 y26 y27 y28 y29 y30 y31 y32 y33 y34 y35 y36 y37 y38 y39 y40 y41 y42 y43 y44 y45 y46 y47 y48 y49 y50 y51 y52 y53 y54 y55 y56 y57 y58 y59 y60 y61 y62 y63 y64 y65 y66 y67 y68 y69 y70 y71 y72 y73 y74 y75 y76 y77 y78
      unfold mezzanineref11_Check.j0
      repeat' first
      | (with_reducible exact ih0 _ _ _ _ _ _ _ _ _ _ _ _ _ _ _ _ _ _ _ _ _ _ _ _ _ _ _ _ _ _ _ _ _ _ _ _ _ _ _ _ _ _ _ _ _ _ _ _ _ _ _ _ _ _ _ _ _ _ _ _ _ _ _ _ _ _ _ _ _ _ _ _ _ _ _ _ _ _ _)
      | (with_reducible exact ih1 _ _ _ _ _ _ _ _ _ _ _ _ _ _ _ _ _ _ _ _ _ _ _ _ _ _ _ _ _ _ _ _ _ _ _ _ _ _ _ _ _ _ _ _ _ _ _ _ _ _ _ _ _ _ _ _ _ _ _ _ _ _ _ _ _ _ _ _ _ _ _ _ _ _ _ _ _ _ _)
      | (with_reducible exact ih2 _ _ _ _ _ _ _ _ _ _ _ _ _ _ _ _ _ _ _ _ _ _ _ _ _ _ _ _ _ _ _ _ _ _ _ _ _ _ _ _ _ _ _ _ _ _ _ _ _ _ _ _ _ _ _ _ _ _ _ _ _ _ _ _ _ _ _ _ _ _ _ _ _ _ _ _ _ _ _)
      | (with_reducible exact ih3 _)
      | (with_reducible exact ih4 _ _ _ _ _ _ _ _ _ _ _ _ _ _ _ _ _ _ _ _ _ _ _ _ _ _ _ _ _ _ _ _ _ _ _ _ _ _ _ _ _ _ _ _ _ _ _ _ _ _ _ _ _ _ _ _ _ _ _ _ _ _ _ _ _ _ _ _ _ _ _ _ _ _ _ _ _ _ _ _)
      | (with_reducible exact ih5 _ _ _ _ _ _ _ _ _ _ _ _ _ _ _ _ _ _ _ _ _ _ _ _ _ _ _ _ _ _ _ _ _ _ _ _ _ _ _ _ _ _ _ _ _ _ _ _ _ _ _ _ _ _ _ _ _ _ _ _ _ _ _ _ _ _ _ _ _ _ _ _ _ _ _ _ _ _ _)
      | (with_reducible exact LeO.refl _)
      | (with_reducible exact LeO.none _)
      | (with_reducible refine LeO.ite ?_ ?_)
      | (with_reducible refine LeO.bind ?_ (fun _ => ?_))
      | exact ih0 _ _ _ _ _ _ _ _ _ _ _ _ _ _ _ _ _ _ _ _ _ _ _ _ _ _ _ _ _ _ _ _ _ _ _ _ _ _ _ _ _ _ _ _ _ _ _ _ _ _ _ _ _ _ _ _ _ _ _ _ _ _ _ _ _ _ _ _ _ _ _ _ _ _ _ _ _ _ _
      | exact ih1 _ _ _ _ _ _ _ _ _ _ _ _ _ _ _ _ _ _ _ _ _ _ _ _ _ _ _ _ _ _ _ _ _ _ _ _ _ _ _ _ _ _ _ _ _ _ _ _ _ _ _ _ _ _ _ _ _ _ _ _ _ _ _ _ _ _ _ _ _ _ _ _ _ _ _ _ _ _ _
      | exact ih2 _ _ _ _ _ _ _ _ _ _ _ _ _ _ _ _ _ _ _ _ _ _ _ _ _ _ _ _ _ _ _ _ _ _ _ _ _ _ _ _ _ _ _ _ _ _ _ _ _ _ _ _ _ _ _ _ _ _ _ _ _ _ _ _ _ _ _ _ _ _ _ _ _ _ _ _ _ _ _
      | exact ih3 _
      | exact ih4 _ _ _ _ _ _ _ _ _ _ _ _ _ _ _ _ _ _ _ _ _ _ _ _ _ _ _ _ _ _ _ _ _ _ _ _ _ _ _ _ _ _ _ _ _ _ _ _ _ _ _ _ _ _ _ _ _ _ _ _ _ _ _ _ _ _ _ _ _ _ _ _ _ _ _ _ _ _ _ _
      | exact ih5 _ _ _ _ _ _ _ _ _ _ _ _ _ _ _ _ _ _ _ _ _ _ _ _ _ _ _ _ _ _ _ _ _ _ _ _ _ _ _ _ _ _ _ _ _ _ _ _ _ _ _ _ _ _ _ _ _ _ _ _ _ _ _ _ _ _ _ _ _ _ _ _ _ _ _ _ _ _ _
      | exact LeO.none _
      | refine LeO.ite ?_ ?_
      | refine LeO.bind ?_ (fun _ => ?_)
    · intro y0 y1 y2 y3 y4 y5 y6 y7 y8 y9 y10 y11 y12 y13 y14 y15 y16 y17 y18 y19 y20 y21 y22 y23 y24 y25 y26 y27 y28 y29 y30 y31 y32 y33 y34 y35 y36 y37 y38 y39 y40 y41 y42 y43 y44 y45 y46 y47 y48 y49 y50 y51 y52 y53 y54 y55 y56 y57 y58 y59 y60 y61 y62 y63 y64 y65 y66 y67 y68 y69 y70 y71 y72 y73 y74 y75 y76 y77 y78
      unfold mezzanineref11_Check.j1
      repeat' first
      | (with_reducible exact ih0 _ _ _ _ _ _ _ _ _ _ _ _ _ _ _ _ _ _ _ _ _ _ _ _ _ _ _ _ _ _ _ _ _ _ _ _ _ _ _ _ _ _ _ _ _ _ _ _ _ _ _ _ _ _ _ _ _ _ _ _ _ _ _ _ _ _ _ _ _ _ _ _ _ _ _ _ _ _ _)
      | (with_reducible exact ih1 _ _ _ _ _ _ _ _ _ _ _ _ _ _ _ _ _ _ _ _ _ _ _ _ _ _ _ _ _ _ _ _ _ _ _ _ _ _ _ _ _ _ _ _ _ _ _ _ _ _ _ _ _ _ _ _ _ _ _ _ _ _ _ _ _ _ _ _ _ _ _ _ _ _ _ _ _ _ _)
      | (with_reducible exact ih2 _ _ _ _ _ _ _ _ _ _ _ _ _ _ _ _ _ _ _ _ _ _ _ _ _ _ _ _ _ _ _ _ _ _ _ _ _ _ _ _ _ _ _ _ _ _ _ _ _ _ _ _ _ _ _ _ _ _ _ _ _ _ _ _ _ _ _ _ _ _ _ _ _ _ _ _ _ _ _)
      | (with_reducible exact ih3 _)
      | (with_reducible exact ih4 _ _ _ _ _ _ _ _ _ _ _ _ _ _ _ _ _ _ _ _ _ _ _ _ _ _ _ _ _ _ _ _ _ _ _ _ _ _ _ _ _ _ _ _ _ _ _ _ _ _ _ _ _ _ _ _ _ _ _ _ _ _ _ _ _ _ _ _ _ _ _ _ _ _ _ _ _ _ _ _)
      | (with_reducible exact ih5 _ _ _ _ _ _ _ _ _ _ _ _ _ _ _ _ _ _ _ _ _ _ _ _ _ _ _ _ _ _ _ _ _ _ _ _ _ _ _ _ _ _ _ _ _ _ _ _ _ _ _ _ _ _ _ _ _ _ _ _ _ _ _ _ _ _ _ _ _ _ _ _ _ _ _ _ _ _ _)
      | (with_reducible exact LeO.refl _)
      | (with_reducible exact LeO.none _)
      | (with_reducible refine LeO.ite ?_ ?_)
      | (with_reducible refine LeO.bind ?_ (fun _ => ?_))
      | exact ih0 _ _ _ _ _ _ _ _ _ _ _ _ _ _ _ _ _ _ _ _ _ _ _ _ _ _ _ _ _ _ _ _ _ _ _ _ _ _ _ _ _ _ _ _ _ _ _ _ _ _ _ _ _ _ _ _ _ _ _ _ _ _ _ _ _ _ _ _ _ _ _ _ _ _ _ _ _ _ _
      | exact ih1 _ _ _ _ _ _ _ _ _ _ _ _ _ _ _ _ _ _ _ _ _ _ _ _ _ _ _ _ _ _ _ _ _ _ _ _ _ _ _ _ _ _ _ _ _ _ _ _ _ _ _ _ _ _ _ _ _ _ _ _ _ _ _ _ _ _ _ _ _ _ _ _ _ _ _ _ _ _ _
      | exact ih2 _ _ _ _ _ _ _ _ _ _ _ _ _ _ _ _ _ _ _ _ _ _ _ _ _ _ _ _ _ _ _ _ _ _ _ _ _ _ _ _ _ _ _ _ _ _ _ _ _ _ _ _ _ _ _ _ _ _ _ _ _ _ _ _ _ _ _ _ _ _ _ _ _ _ _ _ _ _ _
      | exact ih3 _
      | exact ih4 _ _ _ _ _ _ _ _ _ _ _ _ _ _ _ _ _ _ _ _ _ _ _ _ _ _ _ _ _ _ _ _ _ _ _ _ _ _ _ _ _ _ _ _ _ _ _ _ _ _ _ _ _ _ _ _ _ _ _ _ _ _ _ _ _ _ _ _ _ _ _ _ _ _ _ _ _ _ _ _
      | exact ih5 _ _ _ _ _ _ _ _ _ _ _ _ _ _ _ _ _ _ _ _ _ _ _ _ _ _ _ _ _ _ _ _ _ _ _ _ _ _ _ _ _ _ _ _ _ _ _ _ _ _ _ _ _ _ _ _ _ _ _ _ _ _ _ _ _ _ _ _ _ _ _ _ _ _ _ _ _ _ _
      | exact LeO.none _
      | refine LeO.ite ?_ ?_
      | refine LeO.bind ?_ (fun _ => ?_)
    · intro y0 y1 y2 y3 y4 y5 y6 y7 y8 y9 y10 y11 y12 y13 y14 y15 y16 y17 y18 y19 y20 y21 y22 y23 y24 y25 y26 y27 y28 y29 y30 y31 y32 y33 y34 y35 y36 y37 y38 y39 y40 y41 y42 y43 y44 y45 y46 y47 y48 y49 y50 y51 y52 y53 y54 y55 y56 y57 y58 y59 y60 y61 y62 y63 y64 y65 y66 y67 y68 y69 y70 y71 y72 y73 y74 y75 y76 y77 y78
      unfold mezzanineref11_Check.j2
      repeat' first
      | (with_reducible exact ih0 _ _ _ _ _ _ _ _ _ _ _ _ _ _ _ _ _ _ _ _ _ _ _ _ _ _ _ _ _ _ _ _ _ _ _ _ _ _ _ _ _ _ _ _ _ _ _ _ _ _ _ _ _ _ _ _ _ _ _ _ _ _ _ _ _ _ _ _ _ _ _ _ _ _ _ _ _ _ _)
      | (with_reducible exact ih1 _ _ _ _ _ _ _ _ _ _ _ _ _ _ _ _ _ _ _ _ _ _ _ _ _ _ _ _ _ _ _ _ _ _ _ _ _ _ _ _ _ _ _ _ _ _ _ _ _ _ _ _ _ _ _ _ _ _ _ _ _ _ _ _ _ _ _ _ _ _ _ _ _ _ _ _ _ _ _)
      | (with_reducible exact ih2 _ _ _ _ _ _ _ _ _ _ _ _ _ _ _ _ _ _ _ _ _ _ _ _ _ _ _ _ _ _ _ _ _ _ _ _ _ _ _ _ _ _ _ _ _ _ _ _ _ _ _ _ _ _ _ _ _ _ _ _ _ _ _ _ _ _ _ _ _ _ _ _ _ _ _ _ _ _ _)
      | (with_reducible exact ih3 _)
      | (with_reducible exact ih4 _ _ _ _ _ _ _ _ _ _ _ _ _ _ _ _ _ _ _ _ _ _ _ _ _ _ _ _ _ _ _ _ _ _ _ _ _ _ _ _ _ _ _ _ _ _ _ _ _ _ _ _ _ _ _ _ _ _ _ _ _ _ _ _ _ _ _ _ _ _ _ _ _ _ _ _ _ _ _ _)
      | (with_reducible exact ih5 _ _ _ _ _ _ _ _ _ _ _ _ _ _ _ _ _ _ _ _ _ _ _ _ _ _ _ _ _ _ _ _ _ _ _ _ _ _ _ _ _ _ _ _ _ _ _ _ _ _ _ _ _ _ _ _ _ _ _ _ _ _ _ _ _ _ _ _ _ _ _ _ _ _ _ _ _ _ _)
      | (with_reducible exact LeO.refl _)
      | (with_reducible exact LeO.none _)
      | (with_reducible refine LeO.ite ?_ ?_)
      | (with_reducible refine LeO.bind ?_ (fun _ => ?_))
      | exact ih0 _ _ _ _ _ _ _ _ _ _ _ _ _ _ _ _ _ _ _ _ _ _ _ _ _ _ _ _ _ _ _ _ _ _ _ _ _ _ _ _ _ _ _ _ _ _ _ _ _ _ _ _ _ _ _ _ _ _ _ _ _ _ _ _ _ _ _ _ _ _ _ _ _ _ _ _ _ _ _
      | exact ih1 _ _ _ _ _ _ _ _ _ _ _ _ _ _ _ _ _ _ _ _ _ _ _ _ _ _ _ _ _ _ _ _ _ _ _ _ _ _ _ _ _ _ _ _ _ _ _ _ _ _ _ _ _ _ _ _ _ _ _ _ _ _ _ _ _ _ _ _ _ _ _ _ _ _ _ _ _ _ _
      | exact ih2 _ _ _ _ _ _ _ _ _ _ _ _ _ _ _ _ _ _ _ _ _ _ _ _ _ _ _ _ _ _ _ _ _ _ _ _ _ _ _ _ _ _ _ _ _ _ _ _ _ _ _ _ _ _ _ _ _ _ _ _ _ _ _ _ _ _ _ _ _ _ _ _ _ _ _ _ _ _ _
      | exact ih3 _
      | exact ih4 _ _ _ _ _ _ _ _ _ _ _ _ _ _ _ _ _ _ _ _ _ _ _ _ _ _ _ _ _ _ _ _ _ _ _ _ _ _ _ _ _ _ _ _ _ _ _ _ _ _ _ _ _ _ _ _ _ _ _ _ _ _ _ _ _ _ _ _ _ _ _ _ _ _ _ _ _ _ _ _
      | exact ih5 _ _ _ _ _ _ _ _ _ _ _ _ _ _ _ _ _ _ _ _ _ _ _ _ _ _ _ _ _ _ _ _ _ _ _ _ _ _ _ _ _ _ _ _ _ _ _ _ _ _ _ _ _ _ _ _ _ _ _ _ _ _ _ _ _ _ _ _ _ _ _ _ _ _ _ _ _ _ _
      | exact LeO.none _
      | refine LeO.ite ?_ ?_
      | refine LeO.bind ?_ (fun _ => ?_)
    · intro y0
      unfold mezzanineref11_Check.j3
      repeat' first
      | (with_reducible exact ih0 _ _ _ _ _ _ _ _ _ _ _ _ _ _ _ _ _ _ _ _ _ _ _ _ _ _ _ _ _ _ _ _ _ _ _ _ _ _ _ _ _ _ _ _ _ _ _ _ _ _ _ _ _ _ _ _ _ _ _ _ _ _ _ _ _ _ _ _ _ _ _ _ _ _ _ _ _ _ _)
      | (with_reducible exact ih1 _ _ _ _ _ _ _ _ _ _ _ _ _ _ _ _ _ _ _ _ _ _ _ _ _ _ _ _ _ _ _ _ _ _ _ _ _ _ _ _ _ _ _ _ _ _ _ _ _ _ _ _ _ _ _ _ _ _ _ _ _ _ _ _ _ _ _ _ _ _ _ _ _ _ _ _ _ _ _)
      | (with_reducible exact ih2 _ _ _ _ _ _ _ _ _ _ _ _ _ _ _ _ _ _ _ _ _ _ _ _ _ _ _ _ _ _ _ _ _ _ _ _ _ _ _ _ _ _ _ _ _ _ _ _ _ _ _ _ _ _ _ _ _ _ _ _ _ _ _ _ _ _ _ _ _ _ _ _ _ _ _ _ _ _ _)
      | (with_reducible exact ih3 _)
      | (with_reducible exact ih4 _ _ _ _ _ _ _ _ _ _ _ _ _ _ _ _ _ _ _ _ _ _ _ _ _ _ _ _ _ _ _ _ _ _ _ _ _ _ _ _ _ _ _ _ _ _ _ _ _ _ _ _ _ _ _ _ _ _ _ _ _ _ _ _ _ _ _ _ _ _ _ _ _ _ _ _ _ _ _ _)
      | (with_reducible exact ih5 _ _ _ _ _ _ _ _ _ _ _ _ _ _ _ _ _ _ _ _ _ _ _ _ _ _ _ _ _ _ _ _ _ _ _ _ _ _ _ _ _ _ _ _ _ _ _ _ _ _ _ _ _ _ _ _ _ _ _ _ _ _ _ _ _ _ _ _ _ _ _ _ _ _ _ _ _ _ _)
      | (with_reducible exact LeO.refl _)
      | (with_reducible exact LeO.none _)
      | (with_reducible refine LeO.ite ?_ ?_)
      | (with_reducible refine LeO.bind ?_ (fun _ => ?_))
      | exact ih0 _ _ _ _ _ _ _ _ _ _ _ _ _ _ _ _ _ _ _ _ _ _ _ _ _ _ _ _ _ _ _ _ _ _ _ _ _ _ _ _ _ _ _ _ _ _ _ _ _ _ _ _ _ _ _ _ _ _ _ _ _ _ _ _ _ _ _ _ _ _ _ _ _ _ _ _ _ _ _
      | exact ih1 _ _ _ _ _ _ _ _ _ _ _ _ _ _ _ _ _ _ _ _ _ _ _ _ _ _ _ _ _ _ _ _ _ _ _ _ _ _ _ _ _ _ _ _ _ _ _ _ _ _ _ _ _ _ _ _ _ _ _ _ _ _ _ _ _ _ _ _ _ _ _ _ _ _ _ _ _ _ _
      | exact ih2 _ _ _ _ _ _ _ _ _ _ _ _ _ _ _ _ _ _ _ _ _ _ _ _ _ _ _ _ _ _ _ _ _ _ _ _ _ _ _ _ _ _ _ _ _ _ _ _ _ _ _ _ _ _ _ _ _ _ _ _ _ _ _ _ _ _ _ _ _ _ _ _ _ _ _ _ _ _ _
      | exact ih3 _
      | exact ih4 _ _ _ _ _ _ _ _ _ _ _ _ _ _ _ _ _ _ _ _ _ _ _ _ _ _ _ _ _ _ _ _ _ _ _ _ _ _ _ _ _ _ _ _ _ _ _ _ _ _ _ _ _ _ _ _ _ _ _ _ _ _ _ _ _ _ _ _ _ _ _ _ _ _ _ _ _ _ _ _
      | exact ih5 _ _ _ _ _ _ _ _ _ _ _ _ _ _ _ _ _ _ _ _ _ _ _ _ _ _ _ _ _ _ _ _ _ _ _ _ _ _ _ _ _ _ _ _ _ _ _ _ _ _ _ _ _ _ _ _ _ _ _ _ _ _ _ _ _ _ _ _ _ _ _ _ _ _ _ _ _ _ _
      | exact LeO.none _
      | refine LeO.ite ?_ ?_
      | refine LeO.bind ?_ (fun _ => ?_)
    · intro y0 y1 y2 y3 y4 y5 y6 y7 y8 y9 y10 y11 y12 y13 y14 y15 y16 y17 y18 y19 y20 y21 y22 y23 y24 y25 y26 y27 y28 y29 y30 y31 y32 y33 y34 y35 y36 y37 y38 y39 y40 y41 y42 y43 y44 y45 y46 y47 y48 y49 y50 y51 y52 y53 y54 y55 y56 y57 y58 y59 y60 y61 y62 y63 y64 y65 y66 y67 y68 y69 y70 y71 y72 y73 y74 y75 y76 y77 y78 y79
      unfold mezzanineref11_Check.j4
      repeat' first
      | (with_reducible exact ih0 _ _ _ _ _ _ _ _ _ _ _ _ _ _ _ _ _ _ _ _ _ _ _ _ _ _ _ _ _ _ _ _ _ _ _ _ _ _ _ _ _ _ _ _ _ _ _ _ _ _ _ _ _ _ _ _ _ _ _ _ _ _ _ _ _ _ _ _ _ _ _ _ _ _ _ _ _ _ _)
      | (with_reducible exact ih1 _ _ _ _ _ _ _ _ _ _ _ _ _ _ _ _ _ _ _ _ _ _ _ _ _ _ _ _ _ _ _ _ _ _ _ _ _ _ _ _ _ _ _ _ _ _ _ _ _ _ _ _ _ _ _ _ _ _ _ _ _ _ _ _ _ _ _ _ _ _ _ _ _ _ _ _ _ _ _)
      | (with_reducible exact ih2 _ _ _ _ _ _ _ _ _ _ _ _ _ _ _ _ _ _ _ _ _ _ _ _ _ _ _ _ _ _ _ _ _ _ _ _ _ _ _ _ _ _ _ _ _ _ _ _ _ _ _ _ _ _ _ _ _ _ _ _ _ _ _ _ _ _ _ _ _ _ _ _ _ _ _ _ _ _ _)
      | (with_reducible exact ih3 _)
      | (with_reducible exact ih4 _ _ _ _ _ _ _ _ _ _ _ _ _ _ _ _ _ _ _ _ _ _ _ _ _ _ _ _ _ _ _ _ _ _ _ _ _ _ _ _ _ _ _ _ _ _ _ _ _ _ _ _ _ _ _ _ _ _ _ _ _ _ _ _ _ _ _ _ _ _ _ _ _ _ _ _ _ _ _ _)
      | (with_reducible exact ih5 _ _ _ _ _ _ _ _ _ _ _ _ _ _ _ _ _ _ _ _ _ _ _ _ _ _ _ _ _ _ _ _ _ _ _ _ _ _ _ _ _ _ _ _ _ _ _ _ _ _ _ _ _ _ _ _ _ _ _ _ _ _ _ _ _ _ _ _ _ _ _ _ _ _ _ _ _ _ _)
      | (with_reducible exact LeO.refl _)
      | (with_reducible exact LeO.none _)
      | (with_reducible refine LeO.ite ?_ ?_)
      | (with_reducible refine LeO.bind ?_ (fun _ => ?_))
      | exact ih0 _ _ _ _ _ _ _ _ _ _ _ _ _ _ _ _ _ _ _ _ _ _ _ _ _ _ _ _ _ _ _ _ _ _ _ _ _ _ _ _ _ _ _ _ _ _ _ _ _ _ _ _ _ _ _ _ _ _ _ _ _ _ _ _ _ _ _ _ _ _ _ _ _ _ _ _ _ _ _
      | exact ih1 _ _ _ _ _ _ _ _ _ _ _ _ _ _ _ _ _ _ _ _ _ _ _ _ _ _ _ _ _ _ _ _ _ _ _ _ _ _ _ _ _ _ _ _ _ _ _ _ _ _ _ _ _ _ _ _ _ _ _ _ _ _ _ _ _ _ _ _ _ _ _ _ _ _ _ _ _ _ _
      | exact ih2 _ _ _ _ _ _ _ _ _ _ _ _ _ _ _ _ _ _ _ _ _ _ _ _ _ _ _ _ _ _ _ _ _ _ _ _ _ _ _ _ _ _ _ _ _ _ _ _ _ _ _ _ _ _ _ _ _ _ _ _ _ _ _ _ _ _ _ _ _ _ _ _ _ _ _ _ _ _ _
      | exact ih3 _
      | exact ih4 _ _ _ _ _ _ _ _ _ _ _ _ _ _ _ _ _ _ _ _ _ _ _ _ _ _ _ _ _ _ _ _ _ _ _ _ _ _ _ _ _ _ _ _ _ _ _ _ _ _ _ _ _ _ _ _ _ _ _ _ _ _ _ _ _ _ _ _ _ _ _ _ _ _ _ _ _ _ _ _
      | exact ih5 _ _ _ _ _ _ _ _ _ _ _ _ _ _ _ _ _ _ _ _ _ _ _ _ _ _ _ _ _ _ _ _ _ _ _ _ _ _ _ _ _ _ _ _ _ _ _ _ _ _ _ _ _ _ _ _ _ _ _ _ _ _ _ _ _ _ _ _ _ _ _ _ _ _ _ _ _ _ _
      | exact LeO.none _
      | refine LeO.ite ?_ ?_
      | refine LeO.bind ?_ (fun _ => ?_)
    · intro y0 y1 y2 y3 y4 y5 y6 y7 y8 y9 y10 y11 y12 y13 y14 y15 y16 y17 y18 y19 y20 y21 y22 y23 y24 y25 y26 y27 y28 y29 y30 y31 y32 y33 y34 y35 y36 y37 y38 y39 y40 y41 y42 y43 y44 y45 y46 y47 y48 y49 y50 y51 y52 y53 y54 y55 y56 y57 y58 y59 y60 y61 y62 y63 y64 y65 y66 y67 y68 y69 y70 y71 y72 y73 y74 y75 y76 y77 y78
      unfold mezzanineref11_Check.j5
      repeat' first
      | (with_reducible exact ih0 _ _ _ _ _ _ _ _ _ _ _ _ _ _ _ _ _ _ _ _ _ _ _ _ _ _ _ _ _ _ _ _ _ _ _ _ _ _ _ _ _ _ _ _ _ _ _ _ _ _ _ _ _ _ _ _ _ _ _ _ _ _ _ _ _ _ _ _ _ _ _ _ _ _ _ _ _ _ _)
      | (with_reducible exact ih1 _ _ _ _ _ _ _ _ _ _ _ _ _ _ _ _ _ _ _ _ _ _ _ _ _ _ _ _ _ _ _ _ _ _ _ _ _ _ _ _ _ _ _ _ _ _ _ _ _ _ _ _ _ _ _ _ _ _ _ _ _ _ _ _ _ _ _ _ _ _ _ _ _ _ _ _ _ _ _)
      | (with_reducible exact ih2 _ _ _ _ _ _ _ _ _ _ _ _ _ _ _ _ _ _ _ _ _ _ _ _ _ _ _ _ _ _ _ _ _ _ _ _ _ _ _ _ _ _ _ _ _ _ _ _ _ _ _ _ _ _ _ _ _ _ _ _ _ _ _ _ _ _ _ _ _ _ _ _ _ _ _ _ _ _ _)
      | (with_reducible exact ih3 _)
      | (with_reducible exact ih4 _ _ _ _ _ _ _ _ _ _ _ _ _ _ _ _ _ _ _ _ _ _ _ _ _ _ _ _ _ _ _ _ _ _ _ _ _ _ _ _ _ _ _ _ _ _ _ _ _ _ _ _ _ _ _ _ _ _ _ _ _ _ _ _ _ _ _ _ _ _ _ _ _ _ _ _ _ _ _ _)
      | (with_reducible exact ih5 _ _ _ _ _ _ _ _ _ _ _ _ _ _ _ _ _ _ _ _ _ _ _ _ _ _ _ _ _ _ _ _ _ _ _ _ _ _ _ _ _ _ _ _ _ _ _ _ _ _ _ _ _ _ _ _ _ _ _ _ _ _ _ _ _ _ _ _ _ _ _ _ _ _ _ _ _ _ _)
      | (with_reducible exact LeO.refl _)
      | (with_reducible exact LeO.none _)
      | (with_reducible refine LeO.ite ?_ ?_)
      | (with_reducible refine LeO.bind ?_ (fun _ => ?_))
      | exact ih0 _ _ _ _ _ _ _ _ _ _ _ _ _ _ _ _ _ _ _ _ _ _ _ _ _ _ _ _ _ _ _ _ _ _ _ _ _ _ _ _ _ _ _ _ _ _ _ _ _ _ _ _ _ _ _ _ _ _ _ _ _ _ _ _ _ _ _ _ _ _ _ _ _ _ _ _ _ _ _
      | exact ih1 _ _ _ _ _ _ _ _ _ _ _ _ _ _ _ _ _ _ _ _ _ _ _ _ _ _ _ _ _ _ _ _ _ _ _ _ _ _ _ _ _ _ _ _ _ _ _ _ _ _ _ _ _ _ _ _ _ _ _ _ _ _ _ _ _ _ _ _ _ _ _ _ _ _ _ _ _ _ _
      | exact ih2 _ _ _ _ _ _ _ _ _ _ _ _ _ _ _ _ _ _ _ _ _ _ _ _ _ _ _ _ _ _ _ _ _ _ _ _ _ _ _ _ _ _ _ _ _ _ _ _ _ _ _ _ _ _ _ _ _ _ _ _ _ _ _ _ _ _ _ _ _ _ _ _ _ _ _ _ _ _ _
      | exact ih3 _
      | exact ih4 _ _ _ _ _ _ _ _ _ _ _ _ _ _ _ _ _ _ _ _ _ _ _ _ _ _ _ _ _ _ _ _ _ _ _ _ _ _ _ _ _ _ _ _ _ _ _ _ _ _ _ _ _ _ _ _ _ _ _ _ _ _ _ _ _ _ _ _ _ _ _ _ _ _ _ _ _ _ _ _
      | exact ih5 _ _ _ _ _ _ _ _ _ _ _ _ _ _ _ _ _ _ _ _ _ _ _ _ _ _ _ _ _ _ _ _ _ _ _ _ _ _ _ _ _ _ _ _ _ _ _ _ _ _ _ _ _ _ _ _ _ _ _ _ _ _ _ _ _ _ _ _ _ _ _ _ _ _ _ _ _ _ _
      | exact LeO.none _
      | refine LeO.ite ?_ ?_
      | refine LeO.bind ?_ (fun _ => ?_)
theorem mezzanineref11_Check.mono : ∀ a0 a1 a2 a3 a4 a5 a6 a7 a8 a9 a10 a11 a12 a13 a14 a15 a16 a17 a18 a19 a20 a21 a22 a23 a24 a25 a26 a27 a28 a29 a30 a31 a32 a33 a34 a35 a36 a37 a38 a39 a40 a41 a42 a43 a44 a45 a46 a47 a48 a49 a50 a51 a52 a53 a54 a55 a56 a57 a58 a59 a60 a61 a62 a63 a64 a65 a66 a67 a68 a69 a70 a71 a72 a73 a74 a75 a76 a77 a78 k, LeO (mezzanineref11_Check.f k a0 a1 a2 a3 a4 a5 a6 a7 a8 a9 a10 a11 a12 a13 a14 a15 a16 a17 a18 a19 a20 a21 a22 a23 a24 a25 a26 a27 a28 a29 a30 a31 a32 a33 a34 a35 a36 a37 a38 a39 a40 a41 a42 a43 a44 a45 a46 a47 a48 a49 a50 a51 a52 a53 a54 a55 a56 a57 a58 a59 a60 a61 a62 a63 a64 a65 a66 a67 a68 a69 a70 a71 a72 a73 a74 a75 a76 a77 a78) (mezzanineref11_Check.f (k + 1) a0 a1 a2 a3 a4 a5 a6 a7 a8 a9 a10 a11 a12 a13 a14 a15 a16 a17 a18 a19 a20 a21 a22 a23 a24 a25 a26 a27 a28 a29 a30 a31 a32 a33 a34 a35 a36 a37 a38 a39 a40 a41 a42 a43 a44 a45 a46 a47 a48 a49 a50 a51 a52 a53 a54 a55 a56 a57 a58 a59 a60 a61 a62 a63 a64 a65 a66 a67 a68 a69 a70 a71 a72 a73 a74 a75 a76 a77 a78) := by
  intro a0 a1 a2 a3 a4 a5 a6 a7 a8 a9 a10 a11 a12 a13 a14 a15 a16 a17 a18 a19 a20 a21 a22 a23 a24 a25 a26 a27 a28 a29 a30 a31 a32 a33 a34 a35 a36 a37 a38 a39 a40 a41 a42 a43 a44 a45 a46 a47 a48 a49 a50 a51 a52 a53 a54 a55 a56 a57 a58 a59 a60 a61 a62 a63 a64 a65 a66 a67 a68 a69 a70 a71 a72 a73 a74 a75 a76 a77 a78 k
  obtain ⟨ih0, ih1, ih2, ih3, ih4, ih5⟩ := mezzanineref11_Check.mono_l k
  unfold mezzanineref11_Check.f
  repeat' first
      | (with_reducible exact ih0 _ _ _ _ _ _ _ _ _ _ _ _ _ _ _ _ _ _ _ _ _ _ _ _ _ _ _ _ _ _ _ _ _ _ _ _ _ _ _ _ _ _ _ _ _ _ _ _ _ _ _ _ _ _ _ _ _ _ _ _ _ _ _ _ _ _ _ _ _ _ _ _ _ _ _ _ _ _ _)
      | (with_reducible exact ih1 _ _ _ _ _ _ _ _ _ _ _ _ _ _ _ _ _ _ _ _ _ _ _ _ _ _ _ _ _ _ _ _ _ _ _ _ _ _ _ _ _ _ _ _ _ _ _ _ _ _ _ _ _ _ _ _ _ _ _ _ _ _ _ _ _ _ _ _ _ _ _ _ _ _ _ _ _ _ _)
      | (with_reducible exact ih2 _ _ _ _ _ _ _ _ _ _ _ _ _ _ _ _ _ _ _ _ _ _ _ _ _ _ _ _ _ _ _ _ _ _ _ _ _ _ _ _ _ _ _ _ _ _ _ _ _ _ _ _ _ _ _ _ _ _ _ _ _ _ _ _ _ _ _ _ _ _ _ _ _ _ _ _ _ _ _)
      | (with_reducible exact ih3 _)
      | (with_reducible exact ih4 _ _ _ _ _ _ _ _ _ _ _ _ _ _ _ _ _ _ _ _ _ _ _ _ _ _ _ _ _ _ _ _ _ _ _ _ _ _ _ _ _ _ _ _ _ _ _ _ _ _ _ _ _ _ _ _ _ _ _ _ _ _ _ _ _ _ _ _ _ _ _ _ _ _ _ _ _ _ _ _)
      | (with_reducible exact ih5 _ _ _ _ _ _ _ _ _ _ _ _ _ _ _ _ _ _ _ _ _ _ _ _ _ _ _ _ _ _ _ _ _ _ _ _ _ _ _ _ _ _ _ _ _ _ _ _ _ _ _ _ _ _ _ _ _ _ _ _ _ _ _ _ _ _ _ _ _ _ _ _ _ _ _ _ _ _ _)
      | (with_reducible exact LeO.refl _)
      | (with_reducible exact LeO.none _)
      | (with_reducible refine LeO.ite ?_ ?_)
      | (with_reducible refine LeO.bind ?_ (fun _ => ?_))
      | exact ih0 _ _ _ _ _ _ _ _ _ _ _ _ _ _ _ _ _ _ _ _ _ _ _ _ _ _ _ _ _ _ _ _ _ _ _ _ _ _ _ _ _ _ _ _ _ _ _ _ _ _ _ _ _ _ _ _ _ _ _ _ _ _ _ _ _ _ _ _ _ _ _ _ _ _ _ _ _ _ _
      | exact ih1 _ _ _ _ _ _ _ _ _ _ _ _ _ _ _ _ _ _ _ _ _ _ _ _ _ _ _ _ _ _ _ _ _ _ _ _ _ _ _ _ _ _ _ _ _ _ _ _ _ _ _ _ _ _ _ _ _ _ _ _ _ _ _ _ _ _ _ _ _ _ _ _ _ _ _ _ _ _ _
      | exact ih2 _ _ _ _ _ _ _ _ _ _ _ _ _ _ _ _ _ _ _ _ _ _ _ _ _ _ _ _ _ _ _ _ _ _ _ _ _ _ _ _ _ _ _ _ _ _ _ _ _ _ _ _ _ _ _ _ _ _ _ _ _ _ _ _ _ _ _ _ _ _ _ _ _ _ _ _ _ _ _
      | exact ih3 _
      | exact ih4 _ _ _ _ _ _ _ _ _ _ _ _ _ _ _ _ _ _ _ _ _ _ _ _ _ _ _ _ _ _ _ _ _ _ _ _ _ _ _ _ _ _ _ _ _ _ _ _ _ _ _ _ _ _ _ _ _ _ _ _ _ _ _ _ _ _ _ _ _ _ _ _ _ _ _ _ _ _ _ _
      | exact ih5 _ _ _ _ _ _ _ _ _ _ _ _ _ _ _ _ _ _ _ _ _ _ _ _ _ _ _ _ _ _ _ _ _ _ _ _ _ _ _ _ _ _ _ _ _ _ _ _ _ _ _ _ _ _ _ _ _ _ _ _ _ _ _ _ _ _ _ _ _ _ _ _ _ _ _ _ _ _ _
      | exact LeO.none _
      | refine LeO.ite ?_ ?_
      | refine LeO.bind ?_ (fun _ => ?_)
set_option maxHeartbeats 8000000 in
set_option maxRecDepth 100000 in
theorem mezzanineref11_Check.calls (k : Nat) (a0_0 : Int) (a0_1 : Int) (a0_2 : Int) (a0_3 : Int) (a0_4 : Int) (a0_5 : Int) (a0_6 : Int) (a0_7 : Int) (a0_8 : Int) (a0_9 : Int) (a0_10 : Int) (a0_11 : Int) (a0_12 : Int) (a0_13 : Int) (a0_14 : Int) (a0_15 : Int) (a0_16 : Int) (a0_17 : Int) (a0_18 : Int) (a0_19 : Int) (a0_20 : Int) (a0_21 : Int) (a0_22 : Int) (a0_23 : Int) (a0_24 : Int) (a0_25 : Int) (a0_26 : Int) (a0_27 : Int) (a0_28 : Int) (a0_29 : Int) (a0_30 : Int) (a0_31 : Int) (a0_32 : Int) (a0_33 : Int) (a0_34 : Bool) (a0_35 : Bool) (a0_36 : Bool) (a0_37 : Int) (a0_38 : Int) (a0_39 : Int) (a0_40 : Int) (a0_41 : Int) (a0_42 : Int) (a0_43 : Int) (a0_44 : Int) (a0_45 : Int) (a0_46 : Int) (a0_47 : Int) (a0_48 : Int) (a0_49 : Int) (a0_50 : Int) (a0_51 : Int) (a0_52 : Int) (a0_53 : Int) (a0_54 : Int) (a0_55 : Int) (a0_56 : Int) (a0_57 : Int) (a0_58 : Int) (a0_59 : Int) (a0_60 : Int) (a0_61 : Int) (a0_62 : Int) (a0_63 : Int) (a0_64 : Int) (a0_65 : Int) (a0_66 : Int) (a0_67 : Int) (a0_68 : Int) (a0_69 : Int) (a0_70 : Int) (a0_71 : Int) (a0_72 : Int) (a0_73 : Int) (a0_74 : Int) (a0_75 : Int) (a0_76 : Int) (a1 : Int) (a2 : Bool) (r : Int) (w : World) (h : mezzanineref11_Check.f k a0_0 a0_1 a0_2 a0_3 a0_4 a0_5 a0_6 a0_7 a0_8 a0_9 a0_10 a0_11 a0_12 a0_13 a0_14 a0_15 a0_16 a0_17 a0_18 a0_19 a0_20 a0_21 a0_22 a0_23 a0_24 a0_25 a0_26 a0_27 a0_28 a0_29 a0_30 a0_31 a0_32 a0_33 a0_34 a0_35 a0_36 a0_37 a0_38 a0_39 a0_40 a0_41 a0_42 a0_43 a0_44 a0_45 a0_46 a0_47 a0_48 a0_49 a0_50 a0_51 a0_52 a0_53 a0_54 a0_55 a0_56 a0_57 a0_58 a0_59 a0_60 a0_61 a0_62 a0_63 a0_64 a0_65 a0_66 a0_67 a0_68 a0_69 a0_70 a0_71 a0_72 a0_73 a0_74 a0_75 a0_76 a1 a2 = some r) :
    Calls Tryd.prog 16 #[.agg #[.int .u64 a0_0, .int .u64 a0_1, .int .u64 a0_2, .int .u64 a0_3, .int .u64 a0_4, .int .u64 a0_5, .int .u64 a0_6, .int .u64 a0_7, .int .u64 a0_8, .int .u64 a0_9, .int .u64 a0_10, .int .u64 a0_11, .int .u64 a0_12, .int .u64 a0_13, .int .u64 a0_14, .int .u64 a0_15, .int .u64 a0_16, .int .u64 a0_17, .int .u64 a0_18, .int .u64 a0_19, .int .u64 a0_20, .int .u64 a0_21, .int .u64 a0_22, .int .u64 a0_23, .int .u64 a0_24, .int .u64 a0_25, .int .u64 a0_26, .int .u64 a0_27, .int .u64 a0_28, .int .u64 a0_29, .int .u64 a0_30, .int .u64 a0_31, .int .u64 a0_32, .int .u8 a0_33, .bool a0_34, .bool a0_35, .bool a0_36, .int .u64 a0_37, .int .u64 a0_38, .int .u64 a0_39, .int .u64 a0_40, .int .u64 a0_41, .int .u64 a0_42, .int .u64 a0_43, .int .u64 a0_44, .int .u64 a0_45, .int .u64 a0_46, .int .u64 a0_47, .int .u64 a0_48, .int .u64 a0_49, .int .u64 a0_50, .int .u64 a0_51, .int .u64 a0_52, .int .u64 a0_53, .int .u64 a0_54, .int .u64 a0_55, .int .u64 a0_56, .int .u64 a0_57, .int .u64 a0_58, .int .u64 a0_59, .int .u64 a0_60, .int .u64 a0_61, .int .u64 a0_62, .int .u64 a0_63, .int .u64 a0_64, .int .u64 a0_65, .int .u64 a0_66, .int .u64 a0_67, .int .u64 a0_68, .int .u64 a0_69, .int .u64 a0_70, .int .u64 a0_71, .int .u64 a0_72, .int .u64 a0_73, .int .u64 a0_74, .int .u64 a0_75, .int .u64 a0_76], .int .i64 a1, .bool a2] w fun e w' => e = .returned (.int .i64 r) ∧ Below w.heap.size w w' := by
  have hu30 := Tryd.underlying30
  have HB := Aside0.mk (Below.refl w.heap.size w)
  have H : ((mezzanineref11_Name.f a1).bind fun t116 => (if t116.toList = ([] : List UInt8) then (some 2) else (if a2 = true then (mezzanineref11_Check.j0 k a1 (decide (a1 ≥ 3072)) a0_0 a0_1 a0_2 a0_3 a0_4 a0_5 a0_6 a0_7 a0_8 a0_9 a0_10 a0_11 a0_12 a0_13 a0_14 a0_15 a0_16 a0_17 a0_18 a0_19 a0_20 a0_21 a0_22 a0_23 a0_24 a0_25 a0_26 a0_27 a0_28 a0_29 a0_30 a0_31 a0_32 a0_33 a0_34 a0_35 a0_36 a0_37 a0_38 a0_39 a0_40 a0_41 a0_42 a0_43 a0_44 a0_45 a0_46 a0_47 a0_48 a0_49 a0_50 a0_51 a0_52 a0_53 a0_54 a0_55 a0_56 a0_57 a0_58 a0_59 a0_60 a0_61 a0_62 a0_63 a0_64 a0_65 a0_66 a0_67 a0_68 a0_69 a0_70 a0_71 a0_72 a0_73 a0_74 a0_75 a0_76) else (mezzanineref11_Check.j0 k a1 false a0_0 a0_1 a0_2 a0_3 a0_4 a0_5 a0_6 a0_7 a0_8 a0_9 a0_10 a0_11 a0_12 a0_13 a0_14 a0_15 a0_16 a0_17 a0_18 a0_19 a0_20 a0_21 a0_22 a0_23 a0_24 a0_25 a0_26 a0_27 a0_28 a0_29 a0_30 a0_31 a0_32 a0_33 a0_34 a0_35 a0_36 a0_37 a0_38 a0_39 a0_40 a0_41 a0_42 a0_43 a0_44 a0_45 a0_46 a0_47 a0_48 a0_49 a0_50 a0_51 a0_52 a0_53 a0_54 a0_55 a0_56 a0_57 a0_58 a0_59 a0_60 a0_61 a0_62 a0_63 a0_64 a0_65 a0_66 a0_67 a0_68 a0_69 a0_70 a0_71 a0_72 a0_73 a0_74 a0_75 a0_76)))) = some r := h
  clear h
  replace H := Option.bind_eq_some_iff.mp H
  obtain ⟨t116, A40, H⟩ := H
  replace H : (if t116.toList = ([] : List UInt8) then (some 2) else (if a2 = true then (mezzanineref11_Check.j0 k a1 (decide (a1 ≥ 3072)) a0_0 a0_1 a0_2 a0_3 a0_4 a0_5 a0_6 a0_7 a0_8 a0_9 a0_10 a0_11 a0_12 a0_13 a0_14 a0_15 a0_16 a0_17 a0_18 a0_19 a0_20 a0_21 a0_22 a0_23 a0_24 a0_25 a0_26 a0_27 a0_28 a0_29 a0_30 a0_31 a0_32 a0_33 a0_34 a0_35 a0_36 a0_37 a0_38 a0_39 a0_40 a0_41 a0_42 a0_43 a0_44 a0_45 a0_46 a0_47 a0_48 a0_49 a0_50 a0_51 a0_52 a0_53 a0_54 a0_55 a0_56 a0_57 a0_58 a0_59 a0_60 a0_61 a0_62 a0_63 a0_64 a0_65 a0_66 a0_67 a0_68 a0_69 a0_70 a0_71 a0_72 a0_73 a0_74 a0_75 a0_76) else (mezzanineref11_Check.j0 k a1 false a0_0 a0_1 a0_2 a0_3 a0_4 a0_5 a0_6 a0_7 a0_8 a0_9 a0_10 a0_11 a0_12 a0_13 a0_14 a0_15 a0_16 a0_17 a0_18 a0_19 a0_20 a0_21 a0_22 a0_23 a0_24 a0_25 a0_26 a0_27 a0_28 a0_29 a0_30 a0_31 a0_32 a0_33 a0_34 a0_35 a0_36 a0_37 a0_38 a0_39 a0_40 a0_41 a0_42 a0_43 a0_44 a0_45 a0_46 a0_47 a0_48 a0_49 a0_50 a0_51 a0_52 a0_53 a0_54 a0_55 a0_56 a0_57 a0_58 a0_59 a0_60 a0_61 a0_62 a0_63 a0_64 a0_65 a0_66 a0_67 a0_68 a0_69 a0_70 a0_71 a0_72 a0_73 a0_74 a0_75 a0_76))) = some r := H
  have A4 := Aside0.mk A40
  clear A40
  by_cases c5 : t116.toList = ([] : List UInt8)
  · rw [if_pos c5] at H
    have c5b0 : (t116.toList == ([] : List UInt8)) = true := beq_iff_eq.mpr c5
    (try (have e_c5b0 : t116.toList.isEmpty = true := by { have ht116 : (t116.toList != ([] : List UInt8)) = (!t116.toList.isEmpty) := by { cases t116.toList <;> rfl }; have kt116 : (t116.toList == ([] : List UInt8)) = t116.toList.isEmpty := by { cases t116.toList <;> rfl }; have hh := c5b0; simp only [ht116, kt116] at hh; exact hh }))
    have c5b1 : (t116.toList != ([] : List UInt8)) = false := bne_eq_false_iff_eq.mpr c5
    (try (have e_c5b1 : (!t116.toList.isEmpty) = false := by { have ht116 : (t116.toList != ([] : List UInt8)) = (!t116.toList.isEmpty) := by { cases t116.toList <;> rfl }; have kt116 : (t116.toList == ([] : List UInt8)) = t116.toList.isEmpty := by { cases t116.toList <;> rfl }; have hh := c5b1; simp only [ht116, kt116] at hh; exact hh }))
    clear c5
    obtain rfl := Option.some.inj H
    go_enter Tryd.func16, Tryd.ntmps16
    go_wp2_with (first | ((with_reducible refine gate_dst (N := 3) rfl ?_); refine box_event ?hg (N := 3) ?hd (cs := #[.int .u64 a0_0, .int .u64 a0_1, .int .u64 a0_2, .int .u64 a0_3, .int .u64 a0_4, .int .u64 a0_5, .int .u64 a0_6, .int .u64 a0_7, .int .u64 a0_8, .int .u64 a0_9, .int .u64 a0_10, .int .u64 a0_11, .int .u64 a0_12, .int .u64 a0_13, .int .u64 a0_14, .int .u64 a0_15, .int .u64 a0_16, .int .u64 a0_17, .int .u64 a0_18, .int .u64 a0_19, .int .u64 a0_20, .int .u64 a0_21, .int .u64 a0_22, .int .u64 a0_23, .int .u64 a0_24, .int .u64 a0_25, .int .u64 a0_26, .int .u64 a0_27, .int .u64 a0_28, .int .u64 a0_29, .int .u64 a0_30, .int .u64 a0_31, .int .u64 a0_32, .int .u8 a0_33, .bool a0_34, .bool a0_35, .bool a0_36, .int .u64 a0_37, .int .u64 a0_38, .int .u64 a0_39, .int .u64 a0_40, .int .u64 a0_41, .int .u64 a0_42, .int .u64 a0_43, .int .u64 a0_44, .int .u64 a0_45, .int .u64 a0_46, .int .u64 a0_47, .int .u64 a0_48, .int .u64 a0_49, .int .u64 a0_50, .int .u64 a0_51, .int .u64 a0_52, .int .u64 a0_53, .int .u64 a0_54, .int .u64 a0_55, .int .u64 a0_56, .int .u64 a0_57, .int .u64 a0_58, .int .u64 a0_59, .int .u64 a0_60, .int .u64 a0_61, .int .u64 a0_62, .int .u64 a0_63, .int .u64 a0_64, .int .u64 a0_65, .int .u64 a0_66, .int .u64 a0_67, .int .u64 a0_68, .int .u64 a0_69, .int .u64 a0_70, .int .u64 a0_71, .int .u64 a0_72, .int .u64 a0_73, .int .u64 a0_74, .int .u64 a0_75, .int .u64 a0_76]) (t := 30) ?hr ?_; (case hd => rfl); (case hg => rfl); (case hr => first | (go_simp; done) | (go_simp; rfl)); intro gb115 hg w6 hbox hb; have n0_ := Aside0.mk (below_step (by repeat (first | (with_reducible first | exact HB.out | apply below_alloc | apply pw_below_drewN | apply below_drew1) | exact HB.out)) hb); have n1_ := Aside0.mk (hbox); have n2_ := Aside0.mk ((by rw [hg]; exact (below_size (by repeat (first | (with_reducible first | exact HB.out | apply below_alloc | apply pw_below_drewN | apply below_drew1) | exact HB.out))) : w.heap.size ≤ gb115)); have n3_ := Aside0.mk ((by rw [hg]; exact (below_size (by repeat (first | (with_reducible first | exact HB.out | apply below_alloc | apply pw_below_drewN | apply below_drew1) | exact HB.out))) : w.heap.size ≤ gb115)); clear HB; have HB := n0_; have BK115 := n1_; have GW115 := n2_; have GE115 := n3_; clear n0_ n1_ n2_ n3_; clear hb hbox hg) | ((with_reducible refine gate_callee (f := 11) rfl ?_); refine goesL_ (some 10) rfl rfl Tryd.func11 (by kernel_rfl) rfl #[.int .i64 a1] rfl (by (try simp only [List.map_toArray, List.map_cons, List.map_nil]); first | done | rfl | (simp only [List.length_drop, List.length_take]; rfl)) ?_; (with_reducible refine (mezzanineref11_Name.calls a1 t116 _ A4.out).mono ?_); rintro e w' ⟨rfl, ⟨nd, rfl⟩⟩; refine ⟨_, rfl, ?_⟩))
    go_ret
    exact ⟨by first | rfl | (simp [errW_none, errW_some] <;> rfl) | (simp [*, errW_none, errW_some] <;> rfl), by repeat (first | (with_reducible first | exact HB.out | apply below_alloc | apply pw_below_drewN | apply below_drew1 | refine below_set ?_ GE115.out) | exact HB.out)⟩
  · rw [if_neg c5] at H
    have c5b0 : (t116.toList == ([] : List UInt8)) = false := beq_eq_false_iff_ne.mpr c5
    (try (have e_c5b0 : t116.toList.isEmpty = false := by { have ht116 : (t116.toList != ([] : List UInt8)) = (!t116.toList.isEmpty) := by { cases t116.toList <;> rfl }; have kt116 : (t116.toList == ([] : List UInt8)) = t116.toList.isEmpty := by { cases t116.toList <;> rfl }; have hh := c5b0; simp only [ht116, kt116] at hh; exact hh }))
    have c5b1 : (t116.toList != ([] : List UInt8)) = true := bne_iff_ne.mpr c5
    (try (have e_c5b1 : (!t116.toList.isEmpty) = true := by { have ht116 : (t116.toList != ([] : List UInt8)) = (!t116.toList.isEmpty) := by { cases t116.toList <;> rfl }; have kt116 : (t116.toList == ([] : List UInt8)) = t116.toList.isEmpty := by { cases t116.toList <;> rfl }; have hh := c5b1; simp only [ht116, kt116] at hh; exact hh }))
    have HC7 := Aside0.mk H
    clear H
    go_enter Tryd.func16, Tryd.ntmps16
    go_upto_region 3 with (first | ((with_reducible refine gate_dst (N := 3) rfl ?_); refine box_event ?hg (N := 3) ?hd (cs := #[.int .u64 a0_0, .int .u64 a0_1, .int .u64 a0_2, .int .u64 a0_3, .int .u64 a0_4, .int .u64 a0_5, .int .u64 a0_6, .int .u64 a0_7, .int .u64 a0_8, .int .u64 a0_9, .int .u64 a0_10, .int .u64 a0_11, .int .u64 a0_12, .int .u64 a0_13, .int .u64 a0_14, .int .u64 a0_15, .int .u64 a0_16, .int .u64 a0_17, .int .u64 a0_18, .int .u64 a0_19, .int .u64 a0_20, .int .u64 a0_21, .int .u64 a0_22, .int .u64 a0_23, .int .u64 a0_24, .int .u64 a0_25, .int .u64 a0_26, .int .u64 a0_27, .int .u64 a0_28, .int .u64 a0_29, .int .u64 a0_30, .int .u64 a0_31, .int .u64 a0_32, .int .u8 a0_33, .bool a0_34, .bool a0_35, .bool a0_36, .int .u64 a0_37, .int .u64 a0_38, .int .u64 a0_39, .int .u64 a0_40, .int .u64 a0_41, .int .u64 a0_42, .int .u64 a0_43, .int .u64 a0_44, .int .u64 a0_45, .int .u64 a0_46, .int .u64 a0_47, .int .u64 a0_48, .int .u64 a0_49, .int .u64 a0_50, .int .u64 a0_51, .int .u64 a0_52, .int .u64 a0_53, .int .u64 a0_54, .int .u64 a0_55, .int .u64 a0_56, .int .u64 a0_57, .int .u64 a0_58, .int .u64 a0_59, .int .u64 a0_60, .int .u64 a0_61, .int .u64 a0_62, .int .u64 a0_63, .int .u64 a0_64, .int .u64 a0_65, .int .u64 a0_66, .int .u64 a0_67, .int .u64 a0_68, .int .u64 a0_69, .int .u64 a0_70, .int .u64 a0_71, .int .u64 a0_72, .int .u64 a0_73, .int .u64 a0_74, .int .u64 a0_75, .int .u64 a0_76]) (t := 30) ?hr ?_; (case hd => rfl); (case hg => rfl); (case hr => first | (go_simp; done) | (go_simp; rfl)); intro gb115 hg w8 hbox hb; have n0_ := Aside0.mk (below_step (by repeat (first | (with_reducible first | exact HB.out | apply below_alloc | apply pw_below_drewN | apply below_drew1) | exact HB.out)) hb); have n1_ := Aside0.mk (hbox); have n2_ := Aside0.mk ((by rw [hg]; exact (below_size (by repeat (first | (with_reducible first | exact HB.out | apply below_alloc | apply pw_below_drewN | apply below_drew1) | exact HB.out))) : w.heap.size ≤ gb115)); have n3_ := Aside0.mk ((by rw [hg]; exact (below_size (by repeat (first | (with_reducible first | exact HB.out | apply below_alloc | apply pw_below_drewN | apply below_drew1) | exact HB.out))) : w.heap.size ≤ gb115)); clear HB; have HB := n0_; have BK115 := n1_; have GW115 := n2_; have GE115 := n3_; clear n0_ n1_ n2_ n3_; clear hb hbox hg) | ((with_reducible refine gate_callee (f := 11) rfl ?_); refine goesL_ (some 10) rfl rfl Tryd.func11 (by kernel_rfl) rfl #[.int .i64 a1] rfl (by (try simp only [List.map_toArray, List.map_cons, List.map_nil]); first | done | rfl | (simp only [List.length_drop, List.length_take]; rfl)) ?_; (with_reducible refine (mezzanineref11_Name.calls a1 t116 _ A4.out).mono ?_); rintro e w' ⟨rfl, ⟨nd, rfl⟩⟩; refine ⟨_, rfl, ?_⟩))
    (try simp only [Act.put, List.setIfInBounds_toArray, List.set_cons_zero, List.set_cons_succ])
    go_cut [16] (fun v16 wc => ∃ (kq : Nat) (x16_6 : Bool), v16 = .bool x16_6 ∧ Aside0 (mezzanineref11_Check.j0 kq a1 x16_6 a0_0 a0_1 a0_2 a0_3 a0_4 a0_5 a0_6 a0_7 a0_8 a0_9 a0_10 a0_11 a0_12 a0_13 a0_14 a0_15 a0_16 a0_17 a0_18 a0_19 a0_20 a0_21 a0_22 a0_23 a0_24 a0_25 a0_26 a0_27 a0_28 a0_29 a0_30 a0_31 a0_32 a0_33 a0_34 a0_35 a0_36 a0_37 a0_38 a0_39 a0_40 a0_41 a0_42 a0_43 a0_44 a0_45 a0_46 a0_47 a0_48 a0_49 a0_50 a0_51 a0_52 a0_53 a0_54 a0_55 a0_56 a0_57 a0_58 a0_59 a0_60 a0_61 a0_62 a0_63 a0_64 a0_65 a0_66 a0_67 a0_68 a0_69 a0_70 a0_71 a0_72 a0_73 a0_74 a0_75 a0_76 = some r) ∧ Aside0 (kq ≤ k) ∧ Aside0 (wc.heap[gb115]? = some (.cells #[.int .u64 a0_0, .int .u64 a0_1, .int .u64 a0_2, .int .u64 a0_3, .int .u64 a0_4, .int .u64 a0_5, .int .u64 a0_6, .int .u64 a0_7, .int .u64 a0_8, .int .u64 a0_9, .int .u64 a0_10, .int .u64 a0_11, .int .u64 a0_12, .int .u64 a0_13, .int .u64 a0_14, .int .u64 a0_15, .int .u64 a0_16, .int .u64 a0_17, .int .u64 a0_18, .int .u64 a0_19, .int .u64 a0_20, .int .u64 a0_21, .int .u64 a0_22, .int .u64 a0_23, .int .u64 a0_24, .int .u64 a0_25, .int .u64 a0_26, .int .u64 a0_27, .int .u64 a0_28, .int .u64 a0_29, .int .u64 a0_30, .int .u64 a0_31, .int .u64 a0_32, .int .u8 a0_33, .bool a0_34, .bool a0_35, .bool a0_36, .int .u64 a0_37, .int .u64 a0_38, .int .u64 a0_39, .int .u64 a0_40, .int .u64 a0_41, .int .u64 a0_42, .int .u64 a0_43, .int .u64 a0_44, .int .u64 a0_45, .int .u64 a0_46, .int .u64 a0_47, .int .u64 a0_48, .int .u64 a0_49, .int .u64 a0_50, .int .u64 a0_51, .int .u64 a0_52, .int .u64 a0_53, .int .u64 a0_54, .int .u64 a0_55, .int .u64 a0_56, .int .u64 a0_57, .int .u64 a0_58, .int .u64 a0_59, .int .u64 a0_60, .int .u64 a0_61, .int .u64 a0_62, .int .u64 a0_63, .int .u64 a0_64, .int .u64 a0_65, .int .u64 a0_66, .int .u64 a0_67, .int .u64 a0_68, .int .u64 a0_69, .int .u64 a0_70, .int .u64 a0_71, .int .u64 a0_72, .int .u64 a0_73, .int .u64 a0_74, .int .u64 a0_75, .int .u64 a0_76] 30 (0, 0))) ∧ Aside0 (Below w.heap.size w wc))
    case first =>
      have H := HC7.out
      clear HC7
      by_cases c9 : a2 = true
      · subst c9
        have H1 : (mezzanineref11_Check.j0 k a1 (decide (a1 ≥ 3072)) a0_0 a0_1 a0_2 a0_3 a0_4 a0_5 a0_6 a0_7 a0_8 a0_9 a0_10 a0_11 a0_12 a0_13 a0_14 a0_15 a0_16 a0_17 a0_18 a0_19 a0_20 a0_21 a0_22 a0_23 a0_24 a0_25 a0_26 a0_27 a0_28 a0_29 a0_30 a0_31 a0_32 a0_33 a0_34 a0_35 a0_36 a0_37 a0_38 a0_39 a0_40 a0_41 a0_42 a0_43 a0_44 a0_45 a0_46 a0_47 a0_48 a0_49 a0_50 a0_51 a0_52 a0_53 a0_54 a0_55 a0_56 a0_57 a0_58 a0_59 a0_60 a0_61 a0_62 a0_63 a0_64 a0_65 a0_66 a0_67 a0_68 a0_69 a0_70 a0_71 a0_72 a0_73 a0_74 a0_75 a0_76) = some r := by rw [if_pos rfl] at H; exact H
        clear H
        have H := H1
        clear H1
        have H' := Aside0.mk H
        clear H
        go_wp2
        go_meet
        case rel => exact ⟨_, (decide (a1 ≥ 3072)), (by first | rfl | (simp; done) | (simp [*]; done)), H', ⟨by first | omega | exact Nat.le_refl _⟩, ⟨by (with_reducible repeat (first | refine blk_drewN ?_ _ | refine blk_drew ?_ | refine blk_alloc ?_ _)); exact BK115.out⟩, ⟨by repeat (first | (with_reducible first | exact HB.out | apply below_alloc | apply pw_below_drewN | apply below_drew1 | refine below_set ?_ GE115.out) | exact HB.out)⟩⟩
      · replace c9 := Bool.eq_false_iff.mpr c9
        subst c9
        have H1 : (mezzanineref11_Check.j0 k a1 false a0_0 a0_1 a0_2 a0_3 a0_4 a0_5 a0_6 a0_7 a0_8 a0_9 a0_10 a0_11 a0_12 a0_13 a0_14 a0_15 a0_16 a0_17 a0_18 a0_19 a0_20 a0_21 a0_22 a0_23 a0_24 a0_25 a0_26 a0_27 a0_28 a0_29 a0_30 a0_31 a0_32 a0_33 a0_34 a0_35 a0_36 a0_37 a0_38 a0_39 a0_40 a0_41 a0_42 a0_43 a0_44 a0_45 a0_46 a0_47 a0_48 a0_49 a0_50 a0_51 a0_52 a0_53 a0_54 a0_55 a0_56 a0_57 a0_58 a0_59 a0_60 a0_61 a0_62 a0_63 a0_64 a0_65 a0_66 a0_67 a0_68 a0_69 a0_70 a0_71 a0_72 a0_73 a0_74 a0_75 a0_76) = some r := by rw [if_neg (show ¬ (false = true) by decide)] at H; exact H
        clear H
        have H := H1
        clear H1
        have H' := Aside0.mk H
        clear H
        go_wp2
        go_meet
        case rel => exact ⟨_, (false), (by first | rfl | (simp; done) | (simp [*]; done)), H', ⟨by first | omega | exact Nat.le_refl _⟩, ⟨by (with_reducible repeat (first | refine blk_drewN ?_ _ | refine blk_drew ?_ | refine blk_alloc ?_ _)); exact BK115.out⟩, ⟨by repeat (first | (with_reducible first | exact HB.out | apply below_alloc | apply pw_below_drewN | apply below_drew1 | refine below_set ?_ GE115.out) | exact HB.out)⟩⟩
    case rest =>
      clear HC7
      try clear c1
      try clear p2
      try clear c5
      try clear c5b0
      try clear c5b1
      try clear c9
      obtain ⟨kq, x16_6, rfl, HA, HJ6, BK115, HB⟩ := hcut
      cases kq with
      | zero => exact absurd HA.out (by simp [mezzanineref11_Check.j0])
      | succ kj6 =>
        have H := HA.out
        clear HA
        simp only [mezzanineref11_Check.j0] at H
        by_cases c10 : x16_6 = true
        · subst c10
          have H1 : (some 2) = some r := by rw [if_pos rfl] at H; exact H
          clear H
          have H := H1
          clear H1
          obtain rfl := Option.some.inj H
          go_wp2
          go_ret
          exact ⟨by first | rfl | (simp [errW_none, errW_some] <;> rfl) | (simp [*, errW_none, errW_some] <;> rfl), by repeat (first | (with_reducible first | exact HB.out | apply below_alloc | apply pw_below_drewN | apply below_drew1 | refine below_set ?_ GE115.out) | exact HB.out)⟩
        · replace c10 := Bool.eq_false_iff.mpr c10
          subst c10
          have H1 : (if a0_33 = 0 then (mezzanineref11_Check.j1 kj6 a1 false a0_0 a0_1 a0_2 a0_3 a0_4 a0_5 a0_6 a0_7 a0_8 a0_9 a0_10 a0_11 a0_12 a0_13 a0_14 a0_15 a0_16 a0_17 a0_18 a0_19 a0_20 a0_21 a0_22 a0_23 a0_24 a0_25 a0_26 a0_27 a0_28 a0_29 a0_30 a0_31 a0_32 a0_33 a0_34 a0_35 a0_36 a0_37 a0_38 a0_39 a0_40 a0_41 a0_42 a0_43 a0_44 a0_45 a0_46 a0_47 a0_48 a0_49 a0_50 a0_51 a0_52 a0_53 a0_54 a0_55 a0_56 a0_57 a0_58 a0_59 a0_60 a0_61 a0_62 a0_63 a0_64 a0_65 a0_66 a0_67 a0_68 a0_69 a0_70 a0_71 a0_72 a0_73 a0_74 a0_75 a0_76) else (mezzanineref11_Check.j1 kj6 a1 (a0_33 != 1) a0_0 a0_1 a0_2 a0_3 a0_4 a0_5 a0_6 a0_7 a0_8 a0_9 a0_10 a0_11 a0_12 a0_13 a0_14 a0_15 a0_16 a0_17 a0_18 a0_19 a0_20 a0_21 a0_22 a0_23 a0_24 a0_25 a0_26 a0_27 a0_28 a0_29 a0_30 a0_31 a0_32 a0_33 a0_34 a0_35 a0_36 a0_37 a0_38 a0_39 a0_40 a0_41 a0_42 a0_43 a0_44 a0_45 a0_46 a0_47 a0_48 a0_49 a0_50 a0_51 a0_52 a0_53 a0_54 a0_55 a0_56 a0_57 a0_58 a0_59 a0_60 a0_61 a0_62 a0_63 a0_64 a0_65 a0_66 a0_67 a0_68 a0_69 a0_70 a0_71 a0_72 a0_73 a0_74 a0_75 a0_76)) = some r := by rw [if_neg (show ¬ (false = true) by decide)] at H; exact H
          clear H
          have H := H1
          clear H1
          have HC11 := Aside0.mk H
          clear H
          go_upto_region 5 with (fail)
          go_cut [24] (fun v24 wc => ∃ (kq : Nat) (x24_10 : Bool), v24 = .bool x24_10 ∧ Aside0 (mezzanineref11_Check.j1 kq a1 x24_10 a0_0 a0_1 a0_2 a0_3 a0_4 a0_5 a0_6 a0_7 a0_8 a0_9 a0_10 a0_11 a0_12 a0_13 a0_14 a0_15 a0_16 a0_17 a0_18 a0_19 a0_20 a0_21 a0_22 a0_23 a0_24 a0_25 a0_26 a0_27 a0_28 a0_29 a0_30 a0_31 a0_32 a0_33 a0_34 a0_35 a0_36 a0_37 a0_38 a0_39 a0_40 a0_41 a0_42 a0_43 a0_44 a0_45 a0_46 a0_47 a0_48 a0_49 a0_50 a0_51 a0_52 a0_53 a0_54 a0_55 a0_56 a0_57 a0_58 a0_59 a0_60 a0_61 a0_62 a0_63 a0_64 a0_65 a0_66 a0_67 a0_68 a0_69 a0_70 a0_71 a0_72 a0_73 a0_74 a0_75 a0_76 = some r) ∧ Aside0 (kq ≤ kj6) ∧ Aside0 (wc.heap[gb115]? = some (.cells #[.int .u64 a0_0, .int .u64 a0_1, .int .u64 a0_2, .int .u64 a0_3, .int .u64 a0_4, .int .u64 a0_5, .int .u64 a0_6, .int .u64 a0_7, .int .u64 a0_8, .int .u64 a0_9, .int .u64 a0_10, .int .u64 a0_11, .int .u64 a0_12, .int .u64 a0_13, .int .u64 a0_14, .int .u64 a0_15, .int .u64 a0_16, .int .u64 a0_17, .int .u64 a0_18, .int .u64 a0_19, .int .u64 a0_20, .int .u64 a0_21, .int .u64 a0_22, .int .u64 a0_23, .int .u64 a0_24, .int .u64 a0_25, .int .u64 a0_26, .int .u64 a0_27, .int .u64 a0_28, .int .u64 a0_29, .int .u64 a0_30, .int .u64 a0_31, .int .u64 a0_32, .int .u8 a0_33, .bool a0_34, .bool a0_35, .bool a0_36, .int .u64 a0_37, .int .u64 a0_38, .int .u64 a0_39, .int .u64 a0_40, .int .u64 a0_41, .int .u64 a0_42, .int .u64 a0_43, .int .u64 a0_44, .int .u64 a0_45, .int .u64 a0_46, .int .u64 a0_47, .int .u64 a0_48, .int .u64 a0_49, .int .u64 a0_50, .int .u64 a0_51, .int .u64 a0_52, .int .u64 a0_53, .int .u64 a0_54, .int .u64 a0_55, .int .u64 a0_56, .int .u64 a0_57, .int .u64 a0_58, .int .u64 a0_59, .int .u64 a0_60, .int .u64 a0_61, .int .u64 a0_62, .int .u64 a0_63, .int .u64 a0_64, .int .u64 a0_65, .int .u64 a0_66, .int .u64 a0_67, .int .u64 a0_68, .int .u64 a0_69, .int .u64 a0_70, .int .u64 a0_71, .int .u64 a0_72, .int .u64 a0_73, .int .u64 a0_74, .int .u64 a0_75, .int .u64 a0_76] 30 (0, 0))) ∧ Aside0 (Below w.heap.size w wc))
          case first =>
            have H := HC11.out
            clear HC11
            by_cases c12 : a0_33 = 0
            · rw [if_pos c12] at H
              have c12b0 : (a0_33 == 0) = true := beq_iff_eq.mpr c12
              have c12b1 : (a0_33 != 0) = false := bne_eq_false_iff_eq.mpr c12
              clear c12
              (first | rw [c12b0] | (simp only [i64_w, i32_w]; rw [c12b0]) | skip)
              have H' := Aside0.mk H
              clear H
              have hcz13_33 : wc.cell? ⟨gb115, 33, none⟩ = some (.int .u8 a0_33) := (blk_cell BK115.out 33).trans rfl
              have hcz13_34 : wc.cell? ⟨gb115, 34, none⟩ = some (.bool a0_34) := (blk_cell BK115.out 34).trans rfl
              have hcz13_38 : wc.cell? ⟨gb115, 38, none⟩ = some (.int .u64 a0_38) := (blk_cell BK115.out 38).trans rfl
              have hcz13_44 : wc.cell? ⟨gb115, 44, none⟩ = some (.int .u64 a0_44) := (blk_cell BK115.out 44).trans rfl
              have hcz13_52 : wc.cell? ⟨gb115, 52, none⟩ = some (.int .u64 a0_52) := (blk_cell BK115.out 52).trans rfl
              have hcz13_58 : wc.cell? ⟨gb115, 58, none⟩ = some (.int .u64 a0_58) := (blk_cell BK115.out 58).trans rfl
              have hcz13_62 : wc.cell? ⟨gb115, 62, none⟩ = some (.int .u64 a0_62) := (blk_cell BK115.out 62).trans rfl
              have hfz13_33 := blk_frozen BK115.out 33
              have hfz13_34 := blk_frozen BK115.out 34
              have hfz13_38 := blk_frozen BK115.out 38
              have hfz13_44 := blk_frozen BK115.out 44
              have hfz13_52 := blk_frozen BK115.out 52
              have hfz13_58 := blk_frozen BK115.out 58
              have hfz13_62 := blk_frozen BK115.out 62
              go_wp2
              go_meet
              case rel => exact ⟨_, (false), (by first | rfl | (simp; done) | (simp [*]; done)), H', ⟨by have := HJ6.out; first | omega | exact Nat.le_refl _⟩, ⟨by (with_reducible repeat (first | refine blk_drewN ?_ _ | refine blk_drew ?_ | refine blk_alloc ?_ _)); exact BK115.out⟩, ⟨by repeat (first | (with_reducible first | exact HB.out | apply below_alloc | apply pw_below_drewN | apply below_drew1 | refine below_set ?_ GE115.out) | exact HB.out)⟩⟩
            · rw [if_neg c12] at H
              have c12b0 : (a0_33 == 0) = false := beq_eq_false_iff_ne.mpr c12
              have c12b1 : (a0_33 != 0) = true := bne_iff_ne.mpr c12
              (first | rw [c12b0] | (simp only [i64_w, i32_w]; rw [c12b0]) | skip)
              have H' := Aside0.mk H
              clear H
              have hcz14_33 : wc.cell? ⟨gb115, 33, none⟩ = some (.int .u8 a0_33) := (blk_cell BK115.out 33).trans rfl
              have hcz14_34 : wc.cell? ⟨gb115, 34, none⟩ = some (.bool a0_34) := (blk_cell BK115.out 34).trans rfl
              have hcz14_38 : wc.cell? ⟨gb115, 38, none⟩ = some (.int .u64 a0_38) := (blk_cell BK115.out 38).trans rfl
              have hcz14_44 : wc.cell? ⟨gb115, 44, none⟩ = some (.int .u64 a0_44) := (blk_cell BK115.out 44).trans rfl
              have hcz14_52 : wc.cell? ⟨gb115, 52, none⟩ = some (.int .u64 a0_52) := (blk_cell BK115.out 52).trans rfl
              have hcz14_58 : wc.cell? ⟨gb115, 58, none⟩ = some (.int .u64 a0_58) := (blk_cell BK115.out 58).trans rfl
              have hcz14_62 : wc.cell? ⟨gb115, 62, none⟩ = some (.int .u64 a0_62) := (blk_cell BK115.out 62).trans rfl
              have hfz14_33 := blk_frozen BK115.out 33
              have hfz14_34 := blk_frozen BK115.out 34
              have hfz14_38 := blk_frozen BK115.out 38
              have hfz14_44 := blk_frozen BK115.out 44
              have hfz14_52 := blk_frozen BK115.out 52
              have hfz14_58 := blk_frozen BK115.out 58
              have hfz14_62 := blk_frozen BK115.out 62
              go_wp2
              go_meet
              case rel => exact ⟨_, ((a0_33 != 1)), (by first | rfl | (simp; done) | (simp [*]; done)), H', ⟨by have := HJ6.out; first | omega | exact Nat.le_refl _⟩, ⟨by (with_reducible repeat (first | refine blk_drewN ?_ _ | refine blk_drew ?_ | refine blk_alloc ?_ _)); exact BK115.out⟩, ⟨by repeat (first | (with_reducible first | exact HB.out | apply below_alloc | apply pw_below_drewN | apply below_drew1 | refine below_set ?_ GE115.out) | exact HB.out)⟩⟩
          case rest =>
            clear HC11
            try clear c1
            try clear p2
            try clear c5
            try clear c5b0
            try clear c5b1
            try clear c9
            try clear c10
            try clear c11
            try clear c12
            try clear c12b0
            try clear c12b1
            try clear hcz13_33
            try clear hcz13_34
            try clear hcz13_38
            try clear hcz13_44
            try clear hcz13_52
            try clear hcz13_58
            try clear hcz13_62
            try clear hcz14_33
            try clear hcz14_34
            try clear hcz14_38
            try clear hcz14_44
            try clear hcz14_52
            try clear hcz14_58
            try clear hcz14_62
            try clear hfz13_33
            try clear hfz13_34
            try clear hfz13_38
            try clear hfz13_44
            try clear hfz13_52
            try clear hfz13_58
            try clear hfz13_62
            try clear hfz14_33
            try clear hfz14_34
            try clear hfz14_38
            try clear hfz14_44
            try clear hfz14_52
            try clear hfz14_58
            try clear hfz14_62
            try clear p2
            obtain ⟨kq, x24_10, rfl, HA, HJ10, BK115, HB⟩ := hcut
            cases kq with
            | zero => exact absurd HA.out (by simp [mezzanineref11_Check.j1])
            | succ kj10 =>
              have H := HA.out
              clear HA
              simp only [mezzanineref11_Check.j1] at H
              by_cases c15 : x24_10 = true
              · subst c15
                have H1 : (some 0) = some r := by rw [if_pos rfl] at H; exact H
                clear H
                have H := H1
                clear H1
                obtain rfl := Option.some.inj H
                go_wp2
                go_ret
                exact ⟨by first | rfl | (simp [errW_none, errW_some] <;> rfl) | (simp [*, errW_none, errW_some] <;> rfl), by repeat (first | (with_reducible first | exact HB.out | apply below_alloc | apply pw_below_drewN | apply below_drew1 | refine below_set ?_ GE115.out) | exact HB.out)⟩
              · replace c15 := Bool.eq_false_iff.mpr c15
                subst c15
                have H1 : (if a1 = 3072 then (mezzanineref11_Check.j2 kj10 a1 true a0_0 a0_1 a0_2 a0_3 a0_4 a0_5 a0_6 a0_7 a0_8 a0_9 a0_10 a0_11 a0_12 a0_13 a0_14 a0_15 a0_16 a0_17 a0_18 a0_19 a0_20 a0_21 a0_22 a0_23 a0_24 a0_25 a0_26 a0_27 a0_28 a0_29 a0_30 a0_31 a0_32 a0_33 a0_34 a0_35 a0_36 a0_37 a0_38 a0_39 a0_40 a0_41 a0_42 a0_43 a0_44 a0_45 a0_46 a0_47 a0_48 a0_49 a0_50 a0_51 a0_52 a0_53 a0_54 a0_55 a0_56 a0_57 a0_58 a0_59 a0_60 a0_61 a0_62 a0_63 a0_64 a0_65 a0_66 a0_67 a0_68 a0_69 a0_70 a0_71 a0_72 a0_73 a0_74 a0_75 a0_76) else (if a1 = 3073 then (mezzanineref11_Check.j2 kj10 a1 true a0_0 a0_1 a0_2 a0_3 a0_4 a0_5 a0_6 a0_7 a0_8 a0_9 a0_10 a0_11 a0_12 a0_13 a0_14 a0_15 a0_16 a0_17 a0_18 a0_19 a0_20 a0_21 a0_22 a0_23 a0_24 a0_25 a0_26 a0_27 a0_28 a0_29 a0_30 a0_31 a0_32 a0_33 a0_34 a0_35 a0_36 a0_37 a0_38 a0_39 a0_40 a0_41 a0_42 a0_43 a0_44 a0_45 a0_46 a0_47 a0_48 a0_49 a0_50 a0_51 a0_52 a0_53 a0_54 a0_55 a0_56 a0_57 a0_58 a0_59 a0_60 a0_61 a0_62 a0_63 a0_64 a0_65 a0_66 a0_67 a0_68 a0_69 a0_70 a0_71 a0_72 a0_73 a0_74 a0_75 a0_76) else (mezzanineref11_Check.j2 kj10 a1 (a1 == 3074) a0_0 a0_1 a0_2 a0_3 a0_4 a0_5 a0_6 a0_7 a0_8 a0_9 a0_10 a0_11 a0_12 a0_13 a0_14 a0_15 a0_16 a0_17 a0_18 a0_19 a0_20 a0_21 a0_22 a0_23 a0_24 a0_25 a0_26 a0_27 a0_28 a0_29 a0_30 a0_31 a0_32 a0_33 a0_34 a0_35 a0_36 a0_37 a0_38 a0_39 a0_40 a0_41 a0_42 a0_43 a0_44 a0_45 a0_46 a0_47 a0_48 a0_49 a0_50 a0_51 a0_52 a0_53 a0_54 a0_55 a0_56 a0_57 a0_58 a0_59 a0_60 a0_61 a0_62 a0_63 a0_64 a0_65 a0_66 a0_67 a0_68 a0_69 a0_70 a0_71 a0_72 a0_73 a0_74 a0_75 a0_76))) = some r := by rw [if_neg (show ¬ (false = true) by decide)] at H; exact H
                clear H
                have H := H1
                clear H1
                have HC16 := Aside0.mk H
                clear H
                go_upto_region 7 with (fail)
                go_cut [34] (fun v34 wc => ∃ (kq : Nat) (x34_15 : Bool), v34 = .bool x34_15 ∧ Aside0 (mezzanineref11_Check.j2 kq a1 x34_15 a0_0 a0_1 a0_2 a0_3 a0_4 a0_5 a0_6 a0_7 a0_8 a0_9 a0_10 a0_11 a0_12 a0_13 a0_14 a0_15 a0_16 a0_17 a0_18 a0_19 a0_20 a0_21 a0_22 a0_23 a0_24 a0_25 a0_26 a0_27 a0_28 a0_29 a0_30 a0_31 a0_32 a0_33 a0_34 a0_35 a0_36 a0_37 a0_38 a0_39 a0_40 a0_41 a0_42 a0_43 a0_44 a0_45 a0_46 a0_47 a0_48 a0_49 a0_50 a0_51 a0_52 a0_53 a0_54 a0_55 a0_56 a0_57 a0_58 a0_59 a0_60 a0_61 a0_62 a0_63 a0_64 a0_65 a0_66 a0_67 a0_68 a0_69 a0_70 a0_71 a0_72 a0_73 a0_74 a0_75 a0_76 = some r) ∧ Aside0 (kq ≤ kj10) ∧ Aside0 (wc.heap[gb115]? = some (.cells #[.int .u64 a0_0, .int .u64 a0_1, .int .u64 a0_2, .int .u64 a0_3, .int .u64 a0_4, .int .u64 a0_5, .int .u64 a0_6, .int .u64 a0_7, .int .u64 a0_8, .int .u64 a0_9, .int .u64 a0_10, .int .u64 a0_11, .int .u64 a0_12, .int .u64 a0_13, .int .u64 a0_14, .int .u64 a0_15, .int .u64 a0_16, .int .u64 a0_17, .int .u64 a0_18, .int .u64 a0_19, .int .u64 a0_20, .int .u64 a0_21, .int .u64 a0_22, .int .u64 a0_23, .int .u64 a0_24, .int .u64 a0_25, .int .u64 a0_26, .int .u64 a0_27, .int .u64 a0_28, .int .u64 a0_29, .int .u64 a0_30, .int .u64 a0_31, .int .u64 a0_32, .int .u8 a0_33, .bool a0_34, .bool a0_35, .bool a0_36, .int .u64 a0_37, .int .u64 a0_38, .int .u64 a0_39, .int .u64 a0_40, .int .u64 a0_41, .int .u64 a0_42, .int .u64 a0_43, .int .u64 a0_44, .int .u64 a0_45, .int .u64 a0_46, .int .u64 a0_47, .int .u64 a0_48, .int .u64 a0_49, .int .u64 a0_50, .int .u64 a0_51, .int .u64 a0_52, .int .u64 a0_53, .int .u64 a0_54, .int .u64 a0_55, .int .u64 a0_56, .int .u64 a0_57, .int .u64 a0_58, .int .u64 a0_59, .int .u64 a0_60, .int .u64 a0_61, .int .u64 a0_62, .int .u64 a0_63, .int .u64 a0_64, .int .u64 a0_65, .int .u64 a0_66, .int .u64 a0_67, .int .u64 a0_68, .int .u64 a0_69, .int .u64 a0_70, .int .u64 a0_71, .int .u64 a0_72, .int .u64 a0_73, .int .u64 a0_74, .int .u64 a0_75, .int .u64 a0_76] 30 (0, 0))) ∧ Aside0 (Below w.heap.size w wc))
                case first =>
                  have H := HC16.out
                  clear HC16
                  by_cases c17 : a1 = 3072
                  · rw [if_pos c17] at H
                    have c17b0 : (a1 == 3072) = true := beq_iff_eq.mpr c17
                    have c17b1 : (a1 != 3072) = false := bne_eq_false_iff_eq.mpr c17
                    clear c17
                    (first | rw [c17b0] | (simp only [i64_w, i32_w]; rw [c17b0]) | skip)
                    have H' := Aside0.mk H
                    clear H
                    go_wp2
                    go_meet
                    case rel => exact ⟨_, (true), (by first | rfl | (simp; done) | (simp [*]; done)), H', ⟨by have := HJ6.out; have := HJ10.out; first | omega | exact Nat.le_refl _⟩, ⟨by (with_reducible repeat (first | refine blk_drewN ?_ _ | refine blk_drew ?_ | refine blk_alloc ?_ _)); exact BK115.out⟩, ⟨by repeat (first | (with_reducible first | exact HB.out | apply below_alloc | apply pw_below_drewN | apply below_drew1 | refine below_set ?_ GE115.out) | exact HB.out)⟩⟩
                  · rw [if_neg c17] at H
                    have c17b0 : (a1 == 3072) = false := beq_eq_false_iff_ne.mpr c17
                    have c17b1 : (a1 != 3072) = true := bne_iff_ne.mpr c17
                    (first | rw [c17b0] | (simp only [i64_w, i32_w]; rw [c17b0]) | skip)
                    by_cases c18 : a1 = 3073
                    · rw [if_pos c18] at H
                      have c18b0 : (a1 == 3073) = true := beq_iff_eq.mpr c18
                      have c18b1 : (a1 != 3073) = false := bne_eq_false_iff_eq.mpr c18
                      clear c18
                      have H' := Aside0.mk H
                      clear H
                      go_wp2
                      go_meet
                      case rel => exact ⟨_, (true), (by first | rfl | (simp; done) | (simp [*]; done)), H', ⟨by have := HJ6.out; have := HJ10.out; first | omega | exact Nat.le_refl _⟩, ⟨by (with_reducible repeat (first | refine blk_drewN ?_ _ | refine blk_drew ?_ | refine blk_alloc ?_ _)); exact BK115.out⟩, ⟨by repeat (first | (with_reducible first | exact HB.out | apply below_alloc | apply pw_below_drewN | apply below_drew1 | refine below_set ?_ GE115.out) | exact HB.out)⟩⟩
                    · rw [if_neg c18] at H
                      have c18b0 : (a1 == 3073) = false := beq_eq_false_iff_ne.mpr c18
                      have c18b1 : (a1 != 3073) = true := bne_iff_ne.mpr c18
                      have H' := Aside0.mk H
                      clear H
                      go_wp2
                      go_meet
                      case rel => exact ⟨_, ((a1 == 3074)), (by first | rfl | (simp; done) | (simp [*]; done)), H', ⟨by have := HJ6.out; have := HJ10.out; first | omega | exact Nat.le_refl _⟩, ⟨by (with_reducible repeat (first | refine blk_drewN ?_ _ | refine blk_drew ?_ | refine blk_alloc ?_ _)); exact BK115.out⟩, ⟨by repeat (first | (with_reducible first | exact HB.out | apply below_alloc | apply pw_below_drewN | apply below_drew1 | refine below_set ?_ GE115.out) | exact HB.out)⟩⟩
                case rest =>
                  clear HC16
                  try clear c1
                  try clear p2
                  try clear c5
                  try clear c5b0
                  try clear c5b1
                  try clear c9
                  try clear c10
                  try clear c11
                  try clear c12
                  try clear c12b0
                  try clear c12b1
                  try clear c15
                  try clear c16
                  try clear c17
                  try clear c17b0
                  try clear c17b1
                  try clear c18
                  try clear c18b0
                  try clear c18b1
                  try clear hcz13_33
                  try clear hcz13_34
                  try clear hcz13_38
                  try clear hcz13_44
                  try clear hcz13_52
                  try clear hcz13_58
                  try clear hcz13_62
                  try clear hcz14_33
                  try clear hcz14_34
                  try clear hcz14_38
                  try clear hcz14_44
                  try clear hcz14_52
                  try clear hcz14_58
                  try clear hcz14_62
                  try clear hfz13_33
                  try clear hfz13_34
                  try clear hfz13_38
                  try clear hfz13_44
                  try clear hfz13_52
                  try clear hfz13_58
                  try clear hfz13_62
                  try clear hfz14_33
                  try clear hfz14_34
                  try clear hfz14_38
                  try clear hfz14_44
                  try clear hfz14_52
                  try clear hfz14_58
                  try clear hfz14_62
                  try clear p2
                  obtain ⟨kq, x34_15, rfl, HA, HJ15, BK115, HB⟩ := hcut
                  cases kq with
                  | zero => exact absurd HA.out (by simp [mezzanineref11_Check.j2])
                  | succ kj15 =>
                    have H := HA.out
                    clear HA
                    simp only [mezzanineref11_Check.j2] at H
                    by_cases c19 : x34_15 = true
                    · subst c19
                      have H1 : (if 0 ≤ (IntKind.u64.wrap (wrap64 (a1 - 3072))) then (if (Go.bits .and .u64 a0_44 (shl .u64 1 (IntKind.u64.wrap (wrap64 (a1 - 3072))))) = 0 then (some 2) else (if a0_34 = true then (if (Go.bits .and .u64 a0_62 (shl .u64 1 (IntKind.u64.wrap (wrap64 (a1 - 3072))))) = 0 then (some 22) else (if a0_33 = 0 then (mezzanineref11_Check.j3 kj15 ((Go.bits .and .u64 a0_52 (shl .u64 1 (IntKind.u64.wrap (wrap64 (a1 - 3072))))) == 0)) else (mezzanineref11_Check.j3 kj15 false))) else (if a0_33 = 0 then (if (Go.bits .and .u64 a0_52 (shl .u64 1 (IntKind.u64.wrap (wrap64 (a1 - 3072))))) = 0 then (some 2) else (some 0)) else (some 0)))) else (none)) = some r := by rw [if_pos rfl] at H; exact H
                      clear H
                      have H := H1
                      clear H1
                      obtain ⟨ji20, hji20⟩ : ∃ j_ : Int, (IntKind.u64.wrap (wrap64 (a1 - 3072))) = j_ := ⟨_, rfl⟩
                      replace H : (if 0 ≤ (ji20) then (if (Go.bits .and .u64 a0_44 (shl .u64 1 (ji20))) = 0 then (some 2) else (if a0_34 = true then (if (Go.bits .and .u64 a0_62 (shl .u64 1 (ji20))) = 0 then (some 22) else (if a0_33 = 0 then (mezzanineref11_Check.j3 kj15 ((Go.bits .and .u64 a0_52 (shl .u64 1 (ji20))) == 0)) else (mezzanineref11_Check.j3 kj15 false))) else (if a0_33 = 0 then (if (Go.bits .and .u64 a0_52 (shl .u64 1 (ji20))) = 0 then (some 2) else (some 0)) else (some 0)))) else (none)) = some r := by first | (rw [hji20] at H; exact H) | (simp only [hji20] at H ⊢; exact H)
                      by_cases c21 : 0 ≤ (ji20)
                      · rw [if_pos c21] at H
                        have c21b0 := eq_true c21
                        have c21b1 : decide (0 ≤ (ji20)) = true := decide_eq_true c21
                        clear c21
                        obtain ⟨ji22, hji22⟩ : ∃ j_ : Int, (shl .u64 1 (ji20)) = j_ := ⟨_, rfl⟩
                        replace H : (if (Go.bits .and .u64 a0_44 (ji22)) = 0 then (some 2) else (if a0_34 = true then (if (Go.bits .and .u64 a0_62 (ji22)) = 0 then (some 22) else (if a0_33 = 0 then (mezzanineref11_Check.j3 kj15 ((Go.bits .and .u64 a0_52 (ji22)) == 0)) else (mezzanineref11_Check.j3 kj15 false))) else (if a0_33 = 0 then (if (Go.bits .and .u64 a0_52 (ji22)) = 0 then (some 2) else (some 0)) else (some 0)))) = some r := by first | (rw [hji22] at H; exact H) | (simp only [hji22] at H ⊢; exact H)
                        have hji22_ : (IntKind.u64.wrap (1 * 2 ^ min (ji20).toNat 64)) = ji22 := hji22
                        have hji22z : (ji20) ≤ 64 → (IntKind.u64.wrap (1 * 2 ^ (ji20).toNat)) = ji22 := shl_small hji22
                        have hji22u : (IntKind.u64.wrap (2 ^ min (ji20).toNat 64)) = ji22 := by have h_ := hji22_; rw [Int.one_mul] at h_; exact h_
                        have hji22v : (ji20) ≤ 64 → (IntKind.u64.wrap (2 ^ (ji20).toNat)) = ji22 := fun hle_ => by have h_ := hji22z hle_; rw [Int.one_mul] at h_; exact h_
                        by_cases c23 : (Go.bits .and .u64 a0_44 (ji22)) = 0
                        · rw [if_pos c23] at H
                          have c23b0 : ((Go.bits .and .u64 a0_44 (ji22)) == 0) = true := beq_iff_eq.mpr c23
                          have c23b1 : ((Go.bits .and .u64 a0_44 (ji22)) != 0) = false := bne_eq_false_iff_eq.mpr c23
                          clear c23
                          obtain rfl := Option.some.inj H
                          have hcz24_33 : wc.cell? ⟨gb115, 33, none⟩ = some (.int .u8 a0_33) := (blk_cell BK115.out 33).trans rfl
                          have hcz24_34 : wc.cell? ⟨gb115, 34, none⟩ = some (.bool a0_34) := (blk_cell BK115.out 34).trans rfl
                          have hcz24_38 : wc.cell? ⟨gb115, 38, none⟩ = some (.int .u64 a0_38) := (blk_cell BK115.out 38).trans rfl
                          have hcz24_44 : wc.cell? ⟨gb115, 44, none⟩ = some (.int .u64 a0_44) := (blk_cell BK115.out 44).trans rfl
                          have hcz24_52 : wc.cell? ⟨gb115, 52, none⟩ = some (.int .u64 a0_52) := (blk_cell BK115.out 52).trans rfl
                          have hcz24_58 : wc.cell? ⟨gb115, 58, none⟩ = some (.int .u64 a0_58) := (blk_cell BK115.out 58).trans rfl
                          have hcz24_62 : wc.cell? ⟨gb115, 62, none⟩ = some (.int .u64 a0_62) := (blk_cell BK115.out 62).trans rfl
                          have hfz24_33 := blk_frozen BK115.out 33
                          have hfz24_34 := blk_frozen BK115.out 34
                          have hfz24_38 := blk_frozen BK115.out 38
                          have hfz24_44 := blk_frozen BK115.out 44
                          have hfz24_52 := blk_frozen BK115.out 52
                          have hfz24_58 := blk_frozen BK115.out 58
                          have hfz24_62 := blk_frozen BK115.out 62
                          go_wp2
                          go_ret
                          exact ⟨by first | rfl | (simp [errW_none, errW_some] <;> rfl) | (simp only [← hji20, ← hji22]; first | rfl | (simp [errW_none, errW_some] <;> rfl)) | (simp [*, errW_none, errW_some] <;> rfl), by repeat (first | (with_reducible first | exact HB.out | apply below_alloc | apply pw_below_drewN | apply below_drew1 | refine below_set ?_ GE115.out) | exact HB.out)⟩
                        · rw [if_neg c23] at H
                          have c23b0 : ((Go.bits .and .u64 a0_44 (ji22)) == 0) = false := beq_eq_false_iff_ne.mpr c23
                          have c23b1 : ((Go.bits .and .u64 a0_44 (ji22)) != 0) = true := bne_iff_ne.mpr c23
                          by_cases c25 : a0_34 = true
                          · subst c25
                            have H1 : (if (Go.bits .and .u64 a0_62 (ji22)) = 0 then (some 22) else (if a0_33 = 0 then (mezzanineref11_Check.j3 kj15 ((Go.bits .and .u64 a0_52 (ji22)) == 0)) else (mezzanineref11_Check.j3 kj15 false))) = some r := by rw [if_pos rfl] at H; exact H
                            clear H
                            have H := H1
                            clear H1
                            by_cases c26 : (Go.bits .and .u64 a0_62 (ji22)) = 0
                            · rw [if_pos c26] at H
                              have c26b0 : ((Go.bits .and .u64 a0_62 (ji22)) == 0) = true := beq_iff_eq.mpr c26
                              have c26b1 : ((Go.bits .and .u64 a0_62 (ji22)) != 0) = false := bne_eq_false_iff_eq.mpr c26
                              clear c26
                              obtain rfl := Option.some.inj H
                              have hcz27_33 : wc.cell? ⟨gb115, 33, none⟩ = some (.int .u8 a0_33) := (blk_cell BK115.out 33).trans rfl
                              have hcz27_34 : wc.cell? ⟨gb115, 34, none⟩ = some (.bool true) := (blk_cell BK115.out 34).trans rfl
                              have hcz27_38 : wc.cell? ⟨gb115, 38, none⟩ = some (.int .u64 a0_38) := (blk_cell BK115.out 38).trans rfl
                              have hcz27_44 : wc.cell? ⟨gb115, 44, none⟩ = some (.int .u64 a0_44) := (blk_cell BK115.out 44).trans rfl
                              have hcz27_52 : wc.cell? ⟨gb115, 52, none⟩ = some (.int .u64 a0_52) := (blk_cell BK115.out 52).trans rfl
                              have hcz27_58 : wc.cell? ⟨gb115, 58, none⟩ = some (.int .u64 a0_58) := (blk_cell BK115.out 58).trans rfl
                              have hcz27_62 : wc.cell? ⟨gb115, 62, none⟩ = some (.int .u64 a0_62) := (blk_cell BK115.out 62).trans rfl
                              have hfz27_33 := blk_frozen BK115.out 33
                              have hfz27_34 := blk_frozen BK115.out 34
                              have hfz27_38 := blk_frozen BK115.out 38
                              have hfz27_44 := blk_frozen BK115.out 44
                              have hfz27_52 := blk_frozen BK115.out 52
                              have hfz27_58 := blk_frozen BK115.out 58
                              have hfz27_62 := blk_frozen BK115.out 62
                              go_wp2
                              go_ret
                              exact ⟨by first | rfl | (simp [errW_none, errW_some] <;> rfl) | (simp only [← hji20, ← hji22]; first | rfl | (simp [errW_none, errW_some] <;> rfl)) | (simp [*, errW_none, errW_some] <;> rfl), by repeat (first | (with_reducible first | exact HB.out | apply below_alloc | apply pw_below_drewN | apply below_drew1 | refine below_set ?_ GE115.out) | exact HB.out)⟩
                            · rw [if_neg c26] at H
                              have c26b0 : ((Go.bits .and .u64 a0_62 (ji22)) == 0) = false := beq_eq_false_iff_ne.mpr c26
                              have c26b1 : ((Go.bits .and .u64 a0_62 (ji22)) != 0) = true := bne_iff_ne.mpr c26
                              have HC28 := Aside0.mk H
                              clear H
                              have hcz29_33 : wc.cell? ⟨gb115, 33, none⟩ = some (.int .u8 a0_33) := (blk_cell BK115.out 33).trans rfl
                              have hcz29_34 : wc.cell? ⟨gb115, 34, none⟩ = some (.bool true) := (blk_cell BK115.out 34).trans rfl
                              have hcz29_38 : wc.cell? ⟨gb115, 38, none⟩ = some (.int .u64 a0_38) := (blk_cell BK115.out 38).trans rfl
                              have hcz29_44 : wc.cell? ⟨gb115, 44, none⟩ = some (.int .u64 a0_44) := (blk_cell BK115.out 44).trans rfl
                              have hcz29_52 : wc.cell? ⟨gb115, 52, none⟩ = some (.int .u64 a0_52) := (blk_cell BK115.out 52).trans rfl
                              have hcz29_58 : wc.cell? ⟨gb115, 58, none⟩ = some (.int .u64 a0_58) := (blk_cell BK115.out 58).trans rfl
                              have hcz29_62 : wc.cell? ⟨gb115, 62, none⟩ = some (.int .u64 a0_62) := (blk_cell BK115.out 62).trans rfl
                              have hfz29_33 := blk_frozen BK115.out 33
                              have hfz29_34 := blk_frozen BK115.out 34
                              have hfz29_38 := blk_frozen BK115.out 38
                              have hfz29_44 := blk_frozen BK115.out 44
                              have hfz29_52 := blk_frozen BK115.out 52
                              have hfz29_58 := blk_frozen BK115.out 58
                              have hfz29_62 := blk_frozen BK115.out 62
                              go_upto_region 14 with (fail)
                              go_cut [60] (fun v60 wc => ∃ (kq : Nat) (x60_27 : Bool), v60 = .bool x60_27 ∧ Aside0 (mezzanineref11_Check.j3 kq x60_27 = some r) ∧ Aside0 (kq ≤ kj15) ∧ Aside0 (wc.heap[gb115]? = some (.cells #[.int .u64 a0_0, .int .u64 a0_1, .int .u64 a0_2, .int .u64 a0_3, .int .u64 a0_4, .int .u64 a0_5, .int .u64 a0_6, .int .u64 a0_7, .int .u64 a0_8, .int .u64 a0_9, .int .u64 a0_10, .int .u64 a0_11, .int .u64 a0_12, .int .u64 a0_13, .int .u64 a0_14, .int .u64 a0_15, .int .u64 a0_16, .int .u64 a0_17, .int .u64 a0_18, .int .u64 a0_19, .int .u64 a0_20, .int .u64 a0_21, .int .u64 a0_22, .int .u64 a0_23, .int .u64 a0_24, .int .u64 a0_25, .int .u64 a0_26, .int .u64 a0_27, .int .u64 a0_28, .int .u64 a0_29, .int .u64 a0_30, .int .u64 a0_31, .int .u64 a0_32, .int .u8 a0_33, .bool true, .bool a0_35, .bool a0_36, .int .u64 a0_37, .int .u64 a0_38, .int .u64 a0_39, .int .u64 a0_40, .int .u64 a0_41, .int .u64 a0_42, .int .u64 a0_43, .int .u64 a0_44, .int .u64 a0_45, .int .u64 a0_46, .int .u64 a0_47, .int .u64 a0_48, .int .u64 a0_49, .int .u64 a0_50, .int .u64 a0_51, .int .u64 a0_52, .int .u64 a0_53, .int .u64 a0_54, .int .u64 a0_55, .int .u64 a0_56, .int .u64 a0_57, .int .u64 a0_58, .int .u64 a0_59, .int .u64 a0_60, .int .u64 a0_61, .int .u64 a0_62, .int .u64 a0_63, .int .u64 a0_64, .int .u64 a0_65, .int .u64 a0_66, .int .u64 a0_67, .int .u64 a0_68, .int .u64 a0_69, .int .u64 a0_70, .int .u64 a0_71, .int .u64 a0_72, .int .u64 a0_73, .int .u64 a0_74, .int .u64 a0_75, .int .u64 a0_76] 30 (0, 0))) ∧ Aside0 (Below w.heap.size w wc))
                              case first =>
                                have H := HC28.out
                                clear HC28
                                by_cases c30 : a0_33 = 0
                                · rw [if_pos c30] at H
                                  have c30b0 : (a0_33 == 0) = true := beq_iff_eq.mpr c30
                                  have c30b1 : (a0_33 != 0) = false := bne_eq_false_iff_eq.mpr c30
                                  clear c30
                                  (first | rw [c30b0] | (simp only [i64_w, i32_w]; rw [c30b0]) | skip)
                                  have H' := Aside0.mk H
                                  clear H
                                  have hcz31_33 : wc.cell? ⟨gb115, 33, none⟩ = some (.int .u8 a0_33) := (blk_cell BK115.out 33).trans rfl
                                  have hcz31_34 : wc.cell? ⟨gb115, 34, none⟩ = some (.bool true) := (blk_cell BK115.out 34).trans rfl
                                  have hcz31_38 : wc.cell? ⟨gb115, 38, none⟩ = some (.int .u64 a0_38) := (blk_cell BK115.out 38).trans rfl
                                  have hcz31_44 : wc.cell? ⟨gb115, 44, none⟩ = some (.int .u64 a0_44) := (blk_cell BK115.out 44).trans rfl
                                  have hcz31_52 : wc.cell? ⟨gb115, 52, none⟩ = some (.int .u64 a0_52) := (blk_cell BK115.out 52).trans rfl
                                  have hcz31_58 : wc.cell? ⟨gb115, 58, none⟩ = some (.int .u64 a0_58) := (blk_cell BK115.out 58).trans rfl
                                  have hcz31_62 : wc.cell? ⟨gb115, 62, none⟩ = some (.int .u64 a0_62) := (blk_cell BK115.out 62).trans rfl
                                  have hfz31_33 := blk_frozen BK115.out 33
                                  have hfz31_34 := blk_frozen BK115.out 34
                                  have hfz31_38 := blk_frozen BK115.out 38
                                  have hfz31_44 := blk_frozen BK115.out 44
                                  have hfz31_52 := blk_frozen BK115.out 52
                                  have hfz31_58 := blk_frozen BK115.out 58
                                  have hfz31_62 := blk_frozen BK115.out 62
                                  go_wp2
                                  go_meet
                                  case rel => exact ⟨_, (((Go.bits .and .u64 a0_52 (ji22)) == 0)), (by first | rfl | (simp; done) | (simp only [← hji22] <;> (first | rfl | simp)) | (simp [*]; done)), H', ⟨by have := HJ6.out; have := HJ10.out; have := HJ15.out; first | omega | exact Nat.le_refl _⟩, ⟨by (with_reducible repeat (first | refine blk_drewN ?_ _ | refine blk_drew ?_ | refine blk_alloc ?_ _)); exact BK115.out⟩, ⟨by repeat (first | (with_reducible first | exact HB.out | apply below_alloc | apply pw_below_drewN | apply below_drew1 | refine below_set ?_ GE115.out) | exact HB.out)⟩⟩
                                · rw [if_neg c30] at H
                                  have c30b0 : (a0_33 == 0) = false := beq_eq_false_iff_ne.mpr c30
                                  have c30b1 : (a0_33 != 0) = true := bne_iff_ne.mpr c30
                                  (first | rw [c30b0] | (simp only [i64_w, i32_w]; rw [c30b0]) | skip)
                                  have H' := Aside0.mk H
                                  clear H
                                  have hcz32_33 : wc.cell? ⟨gb115, 33, none⟩ = some (.int .u8 a0_33) := (blk_cell BK115.out 33).trans rfl
                                  have hcz32_34 : wc.cell? ⟨gb115, 34, none⟩ = some (.bool true) := (blk_cell BK115.out 34).trans rfl
                                  have hcz32_38 : wc.cell? ⟨gb115, 38, none⟩ = some (.int .u64 a0_38) := (blk_cell BK115.out 38).trans rfl
                                  have hcz32_44 : wc.cell? ⟨gb115, 44, none⟩ = some (.int .u64 a0_44) := (blk_cell BK115.out 44).trans rfl
                                  have hcz32_52 : wc.cell? ⟨gb115, 52, none⟩ = some (.int .u64 a0_52) := (blk_cell BK115.out 52).trans rfl
                                  have hcz32_58 : wc.cell? ⟨gb115, 58, none⟩ = some (.int .u64 a0_58) := (blk_cell BK115.out 58).trans rfl
                                  have hcz32_62 : wc.cell? ⟨gb115, 62, none⟩ = some (.int .u64 a0_62) := (blk_cell BK115.out 62).trans rfl
                                  have hfz32_33 := blk_frozen BK115.out 33
                                  have hfz32_34 := blk_frozen BK115.out 34
                                  have hfz32_38 := blk_frozen BK115.out 38
                                  have hfz32_44 := blk_frozen BK115.out 44
                                  have hfz32_52 := blk_frozen BK115.out 52
                                  have hfz32_58 := blk_frozen BK115.out 58
                                  have hfz32_62 := blk_frozen BK115.out 62
                                  go_wp2
                                  go_meet
                                  case rel => exact ⟨_, (false), (by first | rfl | (simp; done) | (simp [*]; done)), H', ⟨by have := HJ6.out; have := HJ10.out; have := HJ15.out; first | omega | exact Nat.le_refl _⟩, ⟨by (with_reducible repeat (first | refine blk_drewN ?_ _ | refine blk_drew ?_ | refine blk_alloc ?_ _)); exact BK115.out⟩, ⟨by repeat (first | (with_reducible first | exact HB.out | apply below_alloc | apply pw_below_drewN | apply below_drew1 | refine below_set ?_ GE115.out) | exact HB.out)⟩⟩
                              case rest =>
                                clear HC28
                                try clear c1
                                try clear c2
                                try clear p2
                                try clear c3
                                try clear c5
                                try clear c5b0
                                try clear c5b1
                                try clear p6
                                try clear c9
                                try clear c10
                                try clear c11
                                try clear c12
                                try clear c12b0
                                try clear c12b1
                                try clear c15
                                try clear c16
                                try clear c17
                                try clear c17b0
                                try clear c17b1
                                try clear c18
                                try clear c18b0
                                try clear c18b1
                                try clear c19
                                try clear c21
                                try clear c21b0
                                try clear c21b1
                                try clear c23
                                try clear c23b0
                                try clear c23b1
                                try clear c25
                                try clear c26
                                try clear c26b0
                                try clear c26b1
                                try clear c30
                                try clear c30b0
                                try clear c30b1
                                try clear hcz13_33
                                try clear hcz13_34
                                try clear hcz13_38
                                try clear hcz13_44
                                try clear hcz13_52
                                try clear hcz13_58
                                try clear hcz13_62
                                try clear hcz14_33
                                try clear hcz14_34
                                try clear hcz14_38
                                try clear hcz14_44
                                try clear hcz14_52
                                try clear hcz14_58
                                try clear hcz14_62
                                try clear hcz24_33
                                try clear hcz24_34
                                try clear hcz24_38
                                try clear hcz24_44
                                try clear hcz24_52
                                try clear hcz24_58
                                try clear hcz24_62
                                try clear hcz27_33
                                try clear hcz27_34
                                try clear hcz27_38
                                try clear hcz27_44
                                try clear hcz27_52
                                try clear hcz27_58
                                try clear hcz27_62
                                try clear hcz29_33
                                try clear hcz29_34
                                try clear hcz29_38
                                try clear hcz29_44
                                try clear hcz29_52
                                try clear hcz29_58
                                try clear hcz29_62
                                try clear hcz31_33
                                try clear hcz31_34
                                try clear hcz31_38
                                try clear hcz31_44
                                try clear hcz31_52
                                try clear hcz31_58
                                try clear hcz31_62
                                try clear hcz32_33
                                try clear hcz32_34
                                try clear hcz32_38
                                try clear hcz32_44
                                try clear hcz32_52
                                try clear hcz32_58
                                try clear hcz32_62
                                try clear hfz13_33
                                try clear hfz13_34
                                try clear hfz13_38
                                try clear hfz13_44
                                try clear hfz13_52
                                try clear hfz13_58
                                try clear hfz13_62
                                try clear hfz14_33
                                try clear hfz14_34
                                try clear hfz14_38
                                try clear hfz14_44
                                try clear hfz14_52
                                try clear hfz14_58
                                try clear hfz14_62
                                try clear hfz24_33
                                try clear hfz24_34
                                try clear hfz24_38
                                try clear hfz24_44
                                try clear hfz24_52
                                try clear hfz24_58
                                try clear hfz24_62
                                try clear hfz27_33
                                try clear hfz27_34
                                try clear hfz27_38
                                try clear hfz27_44
                                try clear hfz27_52
                                try clear hfz27_58
                                try clear hfz27_62
                                try clear hfz29_33
                                try clear hfz29_34
                                try clear hfz29_38
                                try clear hfz29_44
                                try clear hfz29_52
                                try clear hfz29_58
                                try clear hfz29_62
                                try clear hfz31_33
                                try clear hfz31_34
                                try clear hfz31_38
                                try clear hfz31_44
                                try clear hfz31_52
                                try clear hfz31_58
                                try clear hfz31_62
                                try clear hfz32_33
                                try clear hfz32_34
                                try clear hfz32_38
                                try clear hfz32_44
                                try clear hfz32_52
                                try clear hfz32_58
                                try clear hfz32_62
                                try clear p2
                                obtain ⟨kq, x60_27, rfl, HA, HJ27, BK115, HB⟩ := hcut
                                cases kq with
                                | zero => exact absurd HA.out (by simp [mezzanineref11_Check.j3])
                                | succ kj27 =>
                                  have H := HA.out
                                  clear HA
                                  simp only [mezzanineref11_Check.j3] at H
                                  by_cases c33 : x60_27 = true
                                  · subst c33
                                    have H1 : (some 22) = some r := by rw [if_pos rfl] at H; exact H
                                    clear H
                                    have H := H1
                                    clear H1
                                    obtain rfl := Option.some.inj H
                                    go_wp2
                                    go_ret
                                    exact ⟨by first | rfl | (simp [errW_none, errW_some] <;> rfl) | (simp only [← hji20, ← hji22]; first | rfl | (simp [errW_none, errW_some] <;> rfl)) | (simp [*, errW_none, errW_some] <;> rfl), by repeat (first | (with_reducible first | exact HB.out | apply below_alloc | apply pw_below_drewN | apply below_drew1 | refine below_set ?_ GE115.out) | exact HB.out)⟩
                                  · replace c33 := Bool.eq_false_iff.mpr c33
                                    subst c33
                                    have H1 : (some 0) = some r := by rw [if_neg (show ¬ (false = true) by decide)] at H; exact H
                                    clear H
                                    have H := H1
                                    clear H1
                                    obtain rfl := Option.some.inj H
                                    go_wp2
                                    go_ret
                                    exact ⟨by first | rfl | (simp [errW_none, errW_some] <;> rfl) | (simp only [← hji20, ← hji22]; first | rfl | (simp [errW_none, errW_some] <;> rfl)) | (simp [*, errW_none, errW_some] <;> rfl), by repeat (first | (with_reducible first | exact HB.out | apply below_alloc | apply pw_below_drewN | apply below_drew1 | refine below_set ?_ GE115.out) | exact HB.out)⟩
                          · replace c25 := Bool.eq_false_iff.mpr c25
                            subst c25
                            have H1 : (if a0_33 = 0 then (if (Go.bits .and .u64 a0_52 (ji22)) = 0 then (some 2) else (some 0)) else (some 0)) = some r := by rw [if_neg (show ¬ (false = true) by decide)] at H; exact H
                            clear H
                            have H := H1
                            clear H1
                            by_cases c34 : a0_33 = 0
                            · rw [if_pos c34] at H
                              have c34b0 : (a0_33 == 0) = true := beq_iff_eq.mpr c34
                              have c34b1 : (a0_33 != 0) = false := bne_eq_false_iff_eq.mpr c34
                              clear c34
                              by_cases c35 : (Go.bits .and .u64 a0_52 (ji22)) = 0
                              · rw [if_pos c35] at H
                                have c35b0 : ((Go.bits .and .u64 a0_52 (ji22)) == 0) = true := beq_iff_eq.mpr c35
                                have c35b1 : ((Go.bits .and .u64 a0_52 (ji22)) != 0) = false := bne_eq_false_iff_eq.mpr c35
                                clear c35
                                obtain rfl := Option.some.inj H
                                have hcz36_33 : wc.cell? ⟨gb115, 33, none⟩ = some (.int .u8 a0_33) := (blk_cell BK115.out 33).trans rfl
                                have hcz36_34 : wc.cell? ⟨gb115, 34, none⟩ = some (.bool false) := (blk_cell BK115.out 34).trans rfl
                                have hcz36_38 : wc.cell? ⟨gb115, 38, none⟩ = some (.int .u64 a0_38) := (blk_cell BK115.out 38).trans rfl
                                have hcz36_44 : wc.cell? ⟨gb115, 44, none⟩ = some (.int .u64 a0_44) := (blk_cell BK115.out 44).trans rfl
                                have hcz36_52 : wc.cell? ⟨gb115, 52, none⟩ = some (.int .u64 a0_52) := (blk_cell BK115.out 52).trans rfl
                                have hcz36_58 : wc.cell? ⟨gb115, 58, none⟩ = some (.int .u64 a0_58) := (blk_cell BK115.out 58).trans rfl
                                have hcz36_62 : wc.cell? ⟨gb115, 62, none⟩ = some (.int .u64 a0_62) := (blk_cell BK115.out 62).trans rfl
                                have hfz36_33 := blk_frozen BK115.out 33
                                have hfz36_34 := blk_frozen BK115.out 34
                                have hfz36_38 := blk_frozen BK115.out 38
                                have hfz36_44 := blk_frozen BK115.out 44
                                have hfz36_52 := blk_frozen BK115.out 52
                                have hfz36_58 := blk_frozen BK115.out 58
                                have hfz36_62 := blk_frozen BK115.out 62
                                go_wp2
                                go_ret
                                exact ⟨by first | rfl | (simp [errW_none, errW_some] <;> rfl) | (simp only [← hji20, ← hji22]; first | rfl | (simp [errW_none, errW_some] <;> rfl)) | (simp [*, errW_none, errW_some] <;> rfl), by repeat (first | (with_reducible first | exact HB.out | apply below_alloc | apply pw_below_drewN | apply below_drew1 | refine below_set ?_ GE115.out) | exact HB.out)⟩
                              · rw [if_neg c35] at H
                                have c35b0 : ((Go.bits .and .u64 a0_52 (ji22)) == 0) = false := beq_eq_false_iff_ne.mpr c35
                                have c35b1 : ((Go.bits .and .u64 a0_52 (ji22)) != 0) = true := bne_iff_ne.mpr c35
                                obtain rfl := Option.some.inj H
                                have hcz37_33 : wc.cell? ⟨gb115, 33, none⟩ = some (.int .u8 a0_33) := (blk_cell BK115.out 33).trans rfl
                                have hcz37_34 : wc.cell? ⟨gb115, 34, none⟩ = some (.bool false) := (blk_cell BK115.out 34).trans rfl
                                have hcz37_38 : wc.cell? ⟨gb115, 38, none⟩ = some (.int .u64 a0_38) := (blk_cell BK115.out 38).trans rfl
                                have hcz37_44 : wc.cell? ⟨gb115, 44, none⟩ = some (.int .u64 a0_44) := (blk_cell BK115.out 44).trans rfl
                                have hcz37_52 : wc.cell? ⟨gb115, 52, none⟩ = some (.int .u64 a0_52) := (blk_cell BK115.out 52).trans rfl
                                have hcz37_58 : wc.cell? ⟨gb115, 58, none⟩ = some (.int .u64 a0_58) := (blk_cell BK115.out 58).trans rfl
                                have hcz37_62 : wc.cell? ⟨gb115, 62, none⟩ = some (.int .u64 a0_62) := (blk_cell BK115.out 62).trans rfl
                                have hfz37_33 := blk_frozen BK115.out 33
                                have hfz37_34 := blk_frozen BK115.out 34
                                have hfz37_38 := blk_frozen BK115.out 38
                                have hfz37_44 := blk_frozen BK115.out 44
                                have hfz37_52 := blk_frozen BK115.out 52
                                have hfz37_58 := blk_frozen BK115.out 58
                                have hfz37_62 := blk_frozen BK115.out 62
                                go_wp2
                                go_ret
                                exact ⟨by first | rfl | (simp [errW_none, errW_some] <;> rfl) | (simp only [← hji20, ← hji22]; first | rfl | (simp [errW_none, errW_some] <;> rfl)) | (simp [*, errW_none, errW_some] <;> rfl), by repeat (first | (with_reducible first | exact HB.out | apply below_alloc | apply pw_below_drewN | apply below_drew1 | refine below_set ?_ GE115.out) | exact HB.out)⟩
                            · rw [if_neg c34] at H
                              have c34b0 : (a0_33 == 0) = false := beq_eq_false_iff_ne.mpr c34
                              have c34b1 : (a0_33 != 0) = true := bne_iff_ne.mpr c34
                              obtain rfl := Option.some.inj H
                              have hcz38_33 : wc.cell? ⟨gb115, 33, none⟩ = some (.int .u8 a0_33) := (blk_cell BK115.out 33).trans rfl
                              have hcz38_34 : wc.cell? ⟨gb115, 34, none⟩ = some (.bool false) := (blk_cell BK115.out 34).trans rfl
                              have hcz38_38 : wc.cell? ⟨gb115, 38, none⟩ = some (.int .u64 a0_38) := (blk_cell BK115.out 38).trans rfl
                              have hcz38_44 : wc.cell? ⟨gb115, 44, none⟩ = some (.int .u64 a0_44) := (blk_cell BK115.out 44).trans rfl
                              have hcz38_52 : wc.cell? ⟨gb115, 52, none⟩ = some (.int .u64 a0_52) := (blk_cell BK115.out 52).trans rfl
                              have hcz38_58 : wc.cell? ⟨gb115, 58, none⟩ = some (.int .u64 a0_58) := (blk_cell BK115.out 58).trans rfl
                              have hcz38_62 : wc.cell? ⟨gb115, 62, none⟩ = some (.int .u64 a0_62) := (blk_cell BK115.out 62).trans rfl
                              have hfz38_33 := blk_frozen BK115.out 33
                              have hfz38_34 := blk_frozen BK115.out 34
                              have hfz38_38 := blk_frozen BK115.out 38
                              have hfz38_44 := blk_frozen BK115.out 44
                              have hfz38_52 := blk_frozen BK115.out 52
                              have hfz38_58 := blk_frozen BK115.out 58
                              have hfz38_62 := blk_frozen BK115.out 62
                              go_wp2
                              go_ret
                              exact ⟨by first | rfl | (simp [errW_none, errW_some] <;> rfl) | (simp only [← hji20, ← hji22]; first | rfl | (simp [errW_none, errW_some] <;> rfl)) | (simp [*, errW_none, errW_some] <;> rfl), by repeat (first | (with_reducible first | exact HB.out | apply below_alloc | apply pw_below_drewN | apply below_drew1 | refine below_set ?_ GE115.out) | exact HB.out)⟩
                      · rw [if_neg c21] at H
                        exact absurd H (by simp)
                    · replace c19 := Bool.eq_false_iff.mpr c19
                      subst c19
                      have H1 : (if (Int.tmod (wrap64 (Int.tdiv a1 256)) 4) = 3 then (mezzanineref11_Check.j4 kj15 a1 (Int.tmod (wrap64 (Int.tdiv a1 256)) 4) true a0_0 a0_1 a0_2 a0_3 a0_4 a0_5 a0_6 a0_7 a0_8 a0_9 a0_10 a0_11 a0_12 a0_13 a0_14 a0_15 a0_16 a0_17 a0_18 a0_19 a0_20 a0_21 a0_22 a0_23 a0_24 a0_25 a0_26 a0_27 a0_28 a0_29 a0_30 a0_31 a0_32 a0_33 a0_34 a0_35 a0_36 a0_37 a0_38 a0_39 a0_40 a0_41 a0_42 a0_43 a0_44 a0_45 a0_46 a0_47 a0_48 a0_49 a0_50 a0_51 a0_52 a0_53 a0_54 a0_55 a0_56 a0_57 a0_58 a0_59 a0_60 a0_61 a0_62 a0_63 a0_64 a0_65 a0_66 a0_67 a0_68 a0_69 a0_70 a0_71 a0_72 a0_73 a0_74 a0_75 a0_76) else (mezzanineref11_Check.j4 kj15 a1 (Int.tmod (wrap64 (Int.tdiv a1 256)) 4) ((Int.tmod (wrap64 (Int.tdiv a1 256)) 4) == 0) a0_0 a0_1 a0_2 a0_3 a0_4 a0_5 a0_6 a0_7 a0_8 a0_9 a0_10 a0_11 a0_12 a0_13 a0_14 a0_15 a0_16 a0_17 a0_18 a0_19 a0_20 a0_21 a0_22 a0_23 a0_24 a0_25 a0_26 a0_27 a0_28 a0_29 a0_30 a0_31 a0_32 a0_33 a0_34 a0_35 a0_36 a0_37 a0_38 a0_39 a0_40 a0_41 a0_42 a0_43 a0_44 a0_45 a0_46 a0_47 a0_48 a0_49 a0_50 a0_51 a0_52 a0_53 a0_54 a0_55 a0_56 a0_57 a0_58 a0_59 a0_60 a0_61 a0_62 a0_63 a0_64 a0_65 a0_66 a0_67 a0_68 a0_69 a0_70 a0_71 a0_72 a0_73 a0_74 a0_75 a0_76)) = some r := by rw [if_neg (show ¬ (false = true) by decide)] at H; exact H
                      clear H
                      have H := H1
                      clear H1
                      have HC39 := Aside0.mk H
                      clear H
                      go_upto_region 21 with (fail)
                      go_cut [79] (fun v79 wc => ∃ (kq : Nat) (x79_38 : Bool), v79 = .bool x79_38 ∧ Aside0 (mezzanineref11_Check.j4 kq a1 (Int.tmod (wrap64 (Int.tdiv a1 256)) 4) x79_38 a0_0 a0_1 a0_2 a0_3 a0_4 a0_5 a0_6 a0_7 a0_8 a0_9 a0_10 a0_11 a0_12 a0_13 a0_14 a0_15 a0_16 a0_17 a0_18 a0_19 a0_20 a0_21 a0_22 a0_23 a0_24 a0_25 a0_26 a0_27 a0_28 a0_29 a0_30 a0_31 a0_32 a0_33 a0_34 a0_35 a0_36 a0_37 a0_38 a0_39 a0_40 a0_41 a0_42 a0_43 a0_44 a0_45 a0_46 a0_47 a0_48 a0_49 a0_50 a0_51 a0_52 a0_53 a0_54 a0_55 a0_56 a0_57 a0_58 a0_59 a0_60 a0_61 a0_62 a0_63 a0_64 a0_65 a0_66 a0_67 a0_68 a0_69 a0_70 a0_71 a0_72 a0_73 a0_74 a0_75 a0_76 = some r) ∧ Aside0 (kq ≤ kj15) ∧ Aside0 (wc.heap[gb115]? = some (.cells #[.int .u64 a0_0, .int .u64 a0_1, .int .u64 a0_2, .int .u64 a0_3, .int .u64 a0_4, .int .u64 a0_5, .int .u64 a0_6, .int .u64 a0_7, .int .u64 a0_8, .int .u64 a0_9, .int .u64 a0_10, .int .u64 a0_11, .int .u64 a0_12, .int .u64 a0_13, .int .u64 a0_14, .int .u64 a0_15, .int .u64 a0_16, .int .u64 a0_17, .int .u64 a0_18, .int .u64 a0_19, .int .u64 a0_20, .int .u64 a0_21, .int .u64 a0_22, .int .u64 a0_23, .int .u64 a0_24, .int .u64 a0_25, .int .u64 a0_26, .int .u64 a0_27, .int .u64 a0_28, .int .u64 a0_29, .int .u64 a0_30, .int .u64 a0_31, .int .u64 a0_32, .int .u8 a0_33, .bool a0_34, .bool a0_35, .bool a0_36, .int .u64 a0_37, .int .u64 a0_38, .int .u64 a0_39, .int .u64 a0_40, .int .u64 a0_41, .int .u64 a0_42, .int .u64 a0_43, .int .u64 a0_44, .int .u64 a0_45, .int .u64 a0_46, .int .u64 a0_47, .int .u64 a0_48, .int .u64 a0_49, .int .u64 a0_50, .int .u64 a0_51, .int .u64 a0_52, .int .u64 a0_53, .int .u64 a0_54, .int .u64 a0_55, .int .u64 a0_56, .int .u64 a0_57, .int .u64 a0_58, .int .u64 a0_59, .int .u64 a0_60, .int .u64 a0_61, .int .u64 a0_62, .int .u64 a0_63, .int .u64 a0_64, .int .u64 a0_65, .int .u64 a0_66, .int .u64 a0_67, .int .u64 a0_68, .int .u64 a0_69, .int .u64 a0_70, .int .u64 a0_71, .int .u64 a0_72, .int .u64 a0_73, .int .u64 a0_74, .int .u64 a0_75, .int .u64 a0_76] 30 (0, 0))) ∧ Aside0 (Below w.heap.size w wc))
                      case first =>
                        have H := HC39.out
                        clear HC39
                        by_cases c40 : (Int.tmod (wrap64 (Int.tdiv a1 256)) 4) = 3
                        · rw [if_pos c40] at H
                          have c40b0 : ((Int.tmod (wrap64 (Int.tdiv a1 256)) 4) == 3) = true := beq_iff_eq.mpr c40
                          have c40b1 : ((Int.tmod (wrap64 (Int.tdiv a1 256)) 4) != 3) = false := bne_eq_false_iff_eq.mpr c40
                          clear c40
                          (first | rw [c40b0] | (simp only [i64_w, i32_w]; rw [c40b0]) | skip)
                          have H' := Aside0.mk H
                          clear H
                          go_wp2
                          go_meet
                          case rel => exact ⟨_, (true), (by first | rfl | (simp; done) | (simp [*]; done)), H', ⟨by have := HJ6.out; have := HJ10.out; have := HJ15.out; first | omega | exact Nat.le_refl _⟩, ⟨by (with_reducible repeat (first | refine blk_drewN ?_ _ | refine blk_drew ?_ | refine blk_alloc ?_ _)); exact BK115.out⟩, ⟨by repeat (first | (with_reducible first | exact HB.out | apply below_alloc | apply pw_below_drewN | apply below_drew1 | refine below_set ?_ GE115.out) | exact HB.out)⟩⟩
                        · rw [if_neg c40] at H
                          have c40b0 : ((Int.tmod (wrap64 (Int.tdiv a1 256)) 4) == 3) = false := beq_eq_false_iff_ne.mpr c40
                          have c40b1 : ((Int.tmod (wrap64 (Int.tdiv a1 256)) 4) != 3) = true := bne_iff_ne.mpr c40
                          (first | rw [c40b0] | (simp only [i64_w, i32_w]; rw [c40b0]) | skip)
                          have H' := Aside0.mk H
                          clear H
                          go_wp2
                          go_meet
                          case rel => exact ⟨_, (((Int.tmod (wrap64 (Int.tdiv a1 256)) 4) == 0)), (by first | rfl | (simp; done) | (simp [*]; done)), H', ⟨by have := HJ6.out; have := HJ10.out; have := HJ15.out; first | omega | exact Nat.le_refl _⟩, ⟨by (with_reducible repeat (first | refine blk_drewN ?_ _ | refine blk_drew ?_ | refine blk_alloc ?_ _)); exact BK115.out⟩, ⟨by repeat (first | (with_reducible first | exact HB.out | apply below_alloc | apply pw_below_drewN | apply below_drew1 | refine below_set ?_ GE115.out) | exact HB.out)⟩⟩
                      case rest =>
                        clear HC39
                        try clear c1
                        try clear c2
                        try clear p2
                        try clear c3
                        try clear c4
                        try clear c5
                        try clear c5b0
                        try clear c5b1
                        try clear p6
                        try clear c9
                        try clear c10
                        try clear c11
                        try clear c12
                        try clear c12b0
                        try clear c12b1
                        try clear c15
                        try clear c16
                        try clear c17
                        try clear c17b0
                        try clear c17b1
                        try clear c18
                        try clear c18b0
                        try clear c18b1
                        try clear c19
                        try clear c21
                        try clear c21b0
                        try clear c21b1
                        try clear c23
                        try clear c23b0
                        try clear c23b1
                        try clear c25
                        try clear c26
                        try clear c26b0
                        try clear c26b1
                        try clear c30
                        try clear c30b0
                        try clear c30b1
                        try clear c33
                        try clear c34
                        try clear c34b0
                        try clear c34b1
                        try clear c35
                        try clear c35b0
                        try clear c35b1
                        try clear c40
                        try clear c40b0
                        try clear c40b1
                        try clear hcz13_33
                        try clear hcz13_34
                        try clear hcz13_38
                        try clear hcz13_44
                        try clear hcz13_52
                        try clear hcz13_58
                        try clear hcz13_62
                        try clear hcz14_33
                        try clear hcz14_34
                        try clear hcz14_38
                        try clear hcz14_44
                        try clear hcz14_52
                        try clear hcz14_58
                        try clear hcz14_62
                        try clear hcz24_33
                        try clear hcz24_34
                        try clear hcz24_38
                        try clear hcz24_44
                        try clear hcz24_52
                        try clear hcz24_58
                        try clear hcz24_62
                        try clear hcz27_33
                        try clear hcz27_34
                        try clear hcz27_38
                        try clear hcz27_44
                        try clear hcz27_52
                        try clear hcz27_58
                        try clear hcz27_62
                        try clear hcz29_33
                        try clear hcz29_34
                        try clear hcz29_38
                        try clear hcz29_44
                        try clear hcz29_52
                        try clear hcz29_58
                        try clear hcz29_62
                        try clear hcz31_33
                        try clear hcz31_34
                        try clear hcz31_38
                        try clear hcz31_44
                        try clear hcz31_52
                        try clear hcz31_58
                        try clear hcz31_62
                        try clear hcz32_33
                        try clear hcz32_34
                        try clear hcz32_38
                        try clear hcz32_44
                        try clear hcz32_52
                        try clear hcz32_58
                        try clear hcz32_62
                        try clear hcz36_33
                        try clear hcz36_34
                        try clear hcz36_38
                        try clear hcz36_44
                        try clear hcz36_52
                        try clear hcz36_58
                        try clear hcz36_62
                        try clear hcz37_33
                        try clear hcz37_34
                        try clear hcz37_38
                        try clear hcz37_44
                        try clear hcz37_52
                        try clear hcz37_58
                        try clear hcz37_62
                        try clear hcz38_33
                        try clear hcz38_34
                        try clear hcz38_38
                        try clear hcz38_44
                        try clear hcz38_52
                        try clear hcz38_58
                        try clear hcz38_62
                        try clear hfz13_33
                        try clear hfz13_34
                        try clear hfz13_38
                        try clear hfz13_44
                        try clear hfz13_52
                        try clear hfz13_58
                        try clear hfz13_62
                        try clear hfz14_33
                        try clear hfz14_34
                        try clear hfz14_38
                        try clear hfz14_44
                        try clear hfz14_52
                        try clear hfz14_58
                        try clear hfz14_62
                        try clear hfz24_33
                        try clear hfz24_34
                        try clear hfz24_38
                        try clear hfz24_44
                        try clear hfz24_52
                        try clear hfz24_58
                        try clear hfz24_62
                        try clear hfz27_33
                        try clear hfz27_34
                        try clear hfz27_38
                        try clear hfz27_44
                        try clear hfz27_52
                        try clear hfz27_58
                        try clear hfz27_62
                        try clear hfz29_33
                        try clear hfz29_34
                        try clear hfz29_38
                        try clear hfz29_44
                        try clear hfz29_52
                        try clear hfz29_58
                        try clear hfz29_62
                        try clear hfz31_33
                        try clear hfz31_34
                        try clear hfz31_38
                        try clear hfz31_44
                        try clear hfz31_52
                        try clear hfz31_58
                        try clear hfz31_62
                        try clear hfz32_33
                        try clear hfz32_34
                        try clear hfz32_38
                        try clear hfz32_44
                        try clear hfz32_52
                        try clear hfz32_58
                        try clear hfz32_62
                        try clear hfz36_33
                        try clear hfz36_34
                        try clear hfz36_38
                        try clear hfz36_44
                        try clear hfz36_52
                        try clear hfz36_58
                        try clear hfz36_62
                        try clear hfz37_33
                        try clear hfz37_34
                        try clear hfz37_38
                        try clear hfz37_44
                        try clear hfz37_52
                        try clear hfz37_58
                        try clear hfz37_62
                        try clear hfz38_33
                        try clear hfz38_34
                        try clear hfz38_38
                        try clear hfz38_44
                        try clear hfz38_52
                        try clear hfz38_58
                        try clear hfz38_62
                        try clear p2
                        try clear p6
                        obtain ⟨kq, x79_38, rfl, HA, HJ38, BK115, HB⟩ := hcut
                        cases kq with
                        | zero => exact absurd HA.out (by simp [mezzanineref11_Check.j4])
                        | succ kj38 =>
                          have H := HA.out
                          clear HA
                          simp only [mezzanineref11_Check.j4] at H
                          by_cases c41 : x79_38 = true
                          · subst c41
                            have H1 : (some 2) = some r := by rw [if_pos rfl] at H; exact H
                            clear H
                            have H := H1
                            clear H1
                            obtain rfl := Option.some.inj H
                            go_wp2
                            go_ret
                            exact ⟨by first | rfl | (simp [errW_none, errW_some] <;> rfl) | (simp [*, errW_none, errW_some] <;> rfl), by repeat (first | (with_reducible first | exact HB.out | apply below_alloc | apply pw_below_drewN | apply below_drew1 | refine below_set ?_ GE115.out) | exact HB.out)⟩
                          · replace c41 := Bool.eq_false_iff.mpr c41
                            subst c41
                            have H1 : (if a0_34 = true then (if a0_33 = 0 then (mezzanineref11_Check.j5 kj38 a1 true a0_0 a0_1 a0_2 a0_3 a0_4 a0_5 a0_6 a0_7 a0_8 a0_9 a0_10 a0_11 a0_12 a0_13 a0_14 a0_15 a0_16 a0_17 a0_18 a0_19 a0_20 a0_21 a0_22 a0_23 a0_24 a0_25 a0_26 a0_27 a0_28 a0_29 a0_30 a0_31 a0_32 a0_33 a0_34 a0_35 a0_36 a0_37 a0_38 a0_39 a0_40 a0_41 a0_42 a0_43 a0_44 a0_45 a0_46 a0_47 a0_48 a0_49 a0_50 a0_51 a0_52 a0_53 a0_54 a0_55 a0_56 a0_57 a0_58 a0_59 a0_60 a0_61 a0_62 a0_63 a0_64 a0_65 a0_66 a0_67 a0_68 a0_69 a0_70 a0_71 a0_72 a0_73 a0_74 a0_75 a0_76) else (mezzanineref11_Check.j5 kj38 a1 ((Int.tmod (wrap64 (Int.tdiv a1 256)) 4) == 2) a0_0 a0_1 a0_2 a0_3 a0_4 a0_5 a0_6 a0_7 a0_8 a0_9 a0_10 a0_11 a0_12 a0_13 a0_14 a0_15 a0_16 a0_17 a0_18 a0_19 a0_20 a0_21 a0_22 a0_23 a0_24 a0_25 a0_26 a0_27 a0_28 a0_29 a0_30 a0_31 a0_32 a0_33 a0_34 a0_35 a0_36 a0_37 a0_38 a0_39 a0_40 a0_41 a0_42 a0_43 a0_44 a0_45 a0_46 a0_47 a0_48 a0_49 a0_50 a0_51 a0_52 a0_53 a0_54 a0_55 a0_56 a0_57 a0_58 a0_59 a0_60 a0_61 a0_62 a0_63 a0_64 a0_65 a0_66 a0_67 a0_68 a0_69 a0_70 a0_71 a0_72 a0_73 a0_74 a0_75 a0_76)) else (if a0_33 = 0 then (some 2) else (if a1 = 384 then (if (Go.bits .and .u64 (a0_38 / 1048576) 1) = 1 then (some 2) else (some 0)) else (if a1 = 1664 then (if (Go.bits .and .u64 (a0_38 / 1048576) 1) = 1 then (some 2) else (some 0)) else (some 0))))) = some r := by rw [if_neg (show ¬ (false = true) by decide)] at H; exact H
                            clear H
                            have H := H1
                            clear H1
                            by_cases c42 : a0_34 = true
                            · subst c42
                              have H1 : (if a0_33 = 0 then (mezzanineref11_Check.j5 kj38 a1 true a0_0 a0_1 a0_2 a0_3 a0_4 a0_5 a0_6 a0_7 a0_8 a0_9 a0_10 a0_11 a0_12 a0_13 a0_14 a0_15 a0_16 a0_17 a0_18 a0_19 a0_20 a0_21 a0_22 a0_23 a0_24 a0_25 a0_26 a0_27 a0_28 a0_29 a0_30 a0_31 a0_32 a0_33 true a0_35 a0_36 a0_37 a0_38 a0_39 a0_40 a0_41 a0_42 a0_43 a0_44 a0_45 a0_46 a0_47 a0_48 a0_49 a0_50 a0_51 a0_52 a0_53 a0_54 a0_55 a0_56 a0_57 a0_58 a0_59 a0_60 a0_61 a0_62 a0_63 a0_64 a0_65 a0_66 a0_67 a0_68 a0_69 a0_70 a0_71 a0_72 a0_73 a0_74 a0_75 a0_76) else (mezzanineref11_Check.j5 kj38 a1 ((Int.tmod (wrap64 (Int.tdiv a1 256)) 4) == 2) a0_0 a0_1 a0_2 a0_3 a0_4 a0_5 a0_6 a0_7 a0_8 a0_9 a0_10 a0_11 a0_12 a0_13 a0_14 a0_15 a0_16 a0_17 a0_18 a0_19 a0_20 a0_21 a0_22 a0_23 a0_24 a0_25 a0_26 a0_27 a0_28 a0_29 a0_30 a0_31 a0_32 a0_33 true a0_35 a0_36 a0_37 a0_38 a0_39 a0_40 a0_41 a0_42 a0_43 a0_44 a0_45 a0_46 a0_47 a0_48 a0_49 a0_50 a0_51 a0_52 a0_53 a0_54 a0_55 a0_56 a0_57 a0_58 a0_59 a0_60 a0_61 a0_62 a0_63 a0_64 a0_65 a0_66 a0_67 a0_68 a0_69 a0_70 a0_71 a0_72 a0_73 a0_74 a0_75 a0_76)) = some r := by rw [if_pos rfl] at H; exact H
                              clear H
                              have H := H1
                              clear H1
                              have HC43 := Aside0.mk H
                              clear H
                              have hcz44_33 : wc.cell? ⟨gb115, 33, none⟩ = some (.int .u8 a0_33) := (blk_cell BK115.out 33).trans rfl
                              have hcz44_34 : wc.cell? ⟨gb115, 34, none⟩ = some (.bool true) := (blk_cell BK115.out 34).trans rfl
                              have hcz44_38 : wc.cell? ⟨gb115, 38, none⟩ = some (.int .u64 a0_38) := (blk_cell BK115.out 38).trans rfl
                              have hcz44_44 : wc.cell? ⟨gb115, 44, none⟩ = some (.int .u64 a0_44) := (blk_cell BK115.out 44).trans rfl
                              have hcz44_52 : wc.cell? ⟨gb115, 52, none⟩ = some (.int .u64 a0_52) := (blk_cell BK115.out 52).trans rfl
                              have hcz44_58 : wc.cell? ⟨gb115, 58, none⟩ = some (.int .u64 a0_58) := (blk_cell BK115.out 58).trans rfl
                              have hcz44_62 : wc.cell? ⟨gb115, 62, none⟩ = some (.int .u64 a0_62) := (blk_cell BK115.out 62).trans rfl
                              have hfz44_33 := blk_frozen BK115.out 33
                              have hfz44_34 := blk_frozen BK115.out 34
                              have hfz44_38 := blk_frozen BK115.out 38
                              have hfz44_44 := blk_frozen BK115.out 44
                              have hfz44_52 := blk_frozen BK115.out 52
                              have hfz44_58 := blk_frozen BK115.out 58
                              have hfz44_62 := blk_frozen BK115.out 62
                              go_upto_region 24 with (fail)
                              go_cut [88] (fun v88 wc => ∃ (kq : Nat) (x88_42 : Bool), v88 = .bool x88_42 ∧ Aside0 (mezzanineref11_Check.j5 kq a1 x88_42 a0_0 a0_1 a0_2 a0_3 a0_4 a0_5 a0_6 a0_7 a0_8 a0_9 a0_10 a0_11 a0_12 a0_13 a0_14 a0_15 a0_16 a0_17 a0_18 a0_19 a0_20 a0_21 a0_22 a0_23 a0_24 a0_25 a0_26 a0_27 a0_28 a0_29 a0_30 a0_31 a0_32 a0_33 true a0_35 a0_36 a0_37 a0_38 a0_39 a0_40 a0_41 a0_42 a0_43 a0_44 a0_45 a0_46 a0_47 a0_48 a0_49 a0_50 a0_51 a0_52 a0_53 a0_54 a0_55 a0_56 a0_57 a0_58 a0_59 a0_60 a0_61 a0_62 a0_63 a0_64 a0_65 a0_66 a0_67 a0_68 a0_69 a0_70 a0_71 a0_72 a0_73 a0_74 a0_75 a0_76 = some r) ∧ Aside0 (kq ≤ kj38) ∧ Aside0 (wc.heap[gb115]? = some (.cells #[.int .u64 a0_0, .int .u64 a0_1, .int .u64 a0_2, .int .u64 a0_3, .int .u64 a0_4, .int .u64 a0_5, .int .u64 a0_6, .int .u64 a0_7, .int .u64 a0_8, .int .u64 a0_9, .int .u64 a0_10, .int .u64 a0_11, .int .u64 a0_12, .int .u64 a0_13, .int .u64 a0_14, .int .u64 a0_15, .int .u64 a0_16, .int .u64 a0_17, .int .u64 a0_18, .int .u64 a0_19, .int .u64 a0_20, .int .u64 a0_21, .int .u64 a0_22, .int .u64 a0_23, .int .u64 a0_24, .int .u64 a0_25, .int .u64 a0_26, .int .u64 a0_27, .int .u64 a0_28, .int .u64 a0_29, .int .u64 a0_30, .int .u64 a0_31, .int .u64 a0_32, .int .u8 a0_33, .bool true, .bool a0_35, .bool a0_36, .int .u64 a0_37, .int .u64 a0_38, .int .u64 a0_39, .int .u64 a0_40, .int .u64 a0_41, .int .u64 a0_42, .int .u64 a0_43, .int .u64 a0_44, .int .u64 a0_45, .int .u64 a0_46, .int .u64 a0_47, .int .u64 a0_48, .int .u64 a0_49, .int .u64 a0_50, .int .u64 a0_51, .int .u64 a0_52, .int .u64 a0_53, .int .u64 a0_54, .int .u64 a0_55, .int .u64 a0_56, .int .u64 a0_57, .int .u64 a0_58, .int .u64 a0_59, .int .u64 a0_60, .int .u64 a0_61, .int .u64 a0_62, .int .u64 a0_63, .int .u64 a0_64, .int .u64 a0_65, .int .u64 a0_66, .int .u64 a0_67, .int .u64 a0_68, .int .u64 a0_69, .int .u64 a0_70, .int .u64 a0_71, .int .u64 a0_72, .int .u64 a0_73, .int .u64 a0_74, .int .u64 a0_75, .int .u64 a0_76] 30 (0, 0))) ∧ Aside0 (Below w.heap.size w wc))
                              case first =>
                                have H := HC43.out
                                clear HC43
                                by_cases c45 : a0_33 = 0
                                · rw [if_pos c45] at H
                                  have c45b0 : (a0_33 == 0) = true := beq_iff_eq.mpr c45
                                  have c45b1 : (a0_33 != 0) = false := bne_eq_false_iff_eq.mpr c45
                                  clear c45
                                  (first | rw [c45b0] | (simp only [i64_w, i32_w]; rw [c45b0]) | skip)
                                  have H' := Aside0.mk H
                                  clear H
                                  have hcz46_33 : wc.cell? ⟨gb115, 33, none⟩ = some (.int .u8 a0_33) := (blk_cell BK115.out 33).trans rfl
                                  have hcz46_34 : wc.cell? ⟨gb115, 34, none⟩ = some (.bool true) := (blk_cell BK115.out 34).trans rfl
                                  have hcz46_38 : wc.cell? ⟨gb115, 38, none⟩ = some (.int .u64 a0_38) := (blk_cell BK115.out 38).trans rfl
                                  have hcz46_44 : wc.cell? ⟨gb115, 44, none⟩ = some (.int .u64 a0_44) := (blk_cell BK115.out 44).trans rfl
                                  have hcz46_52 : wc.cell? ⟨gb115, 52, none⟩ = some (.int .u64 a0_52) := (blk_cell BK115.out 52).trans rfl
                                  have hcz46_58 : wc.cell? ⟨gb115, 58, none⟩ = some (.int .u64 a0_58) := (blk_cell BK115.out 58).trans rfl
                                  have hcz46_62 : wc.cell? ⟨gb115, 62, none⟩ = some (.int .u64 a0_62) := (blk_cell BK115.out 62).trans rfl
                                  have hfz46_33 := blk_frozen BK115.out 33
                                  have hfz46_34 := blk_frozen BK115.out 34
                                  have hfz46_38 := blk_frozen BK115.out 38
                                  have hfz46_44 := blk_frozen BK115.out 44
                                  have hfz46_52 := blk_frozen BK115.out 52
                                  have hfz46_58 := blk_frozen BK115.out 58
                                  have hfz46_62 := blk_frozen BK115.out 62
                                  go_wp2
                                  go_meet
                                  case rel => exact ⟨_, (true), (by first | rfl | (simp; done) | (simp [*]; done)), H', ⟨by have := HJ6.out; have := HJ10.out; have := HJ15.out; have := HJ38.out; first | omega | exact Nat.le_refl _⟩, ⟨by (with_reducible repeat (first | refine blk_drewN ?_ _ | refine blk_drew ?_ | refine blk_alloc ?_ _)); exact BK115.out⟩, ⟨by repeat (first | (with_reducible first | exact HB.out | apply below_alloc | apply pw_below_drewN | apply below_drew1 | refine below_set ?_ GE115.out) | exact HB.out)⟩⟩
                                · rw [if_neg c45] at H
                                  have c45b0 : (a0_33 == 0) = false := beq_eq_false_iff_ne.mpr c45
                                  have c45b1 : (a0_33 != 0) = true := bne_iff_ne.mpr c45
                                  (first | rw [c45b0] | (simp only [i64_w, i32_w]; rw [c45b0]) | skip)
                                  have H' := Aside0.mk H
                                  clear H
                                  have hcz47_33 : wc.cell? ⟨gb115, 33, none⟩ = some (.int .u8 a0_33) := (blk_cell BK115.out 33).trans rfl
                                  have hcz47_34 : wc.cell? ⟨gb115, 34, none⟩ = some (.bool true) := (blk_cell BK115.out 34).trans rfl
                                  have hcz47_38 : wc.cell? ⟨gb115, 38, none⟩ = some (.int .u64 a0_38) := (blk_cell BK115.out 38).trans rfl
                                  have hcz47_44 : wc.cell? ⟨gb115, 44, none⟩ = some (.int .u64 a0_44) := (blk_cell BK115.out 44).trans rfl
                                  have hcz47_52 : wc.cell? ⟨gb115, 52, none⟩ = some (.int .u64 a0_52) := (blk_cell BK115.out 52).trans rfl
                                  have hcz47_58 : wc.cell? ⟨gb115, 58, none⟩ = some (.int .u64 a0_58) := (blk_cell BK115.out 58).trans rfl
                                  have hcz47_62 : wc.cell? ⟨gb115, 62, none⟩ = some (.int .u64 a0_62) := (blk_cell BK115.out 62).trans rfl
                                  have hfz47_33 := blk_frozen BK115.out 33
                                  have hfz47_34 := blk_frozen BK115.out 34
                                  have hfz47_38 := blk_frozen BK115.out 38
                                  have hfz47_44 := blk_frozen BK115.out 44
                                  have hfz47_52 := blk_frozen BK115.out 52
                                  have hfz47_58 := blk_frozen BK115.out 58
                                  have hfz47_62 := blk_frozen BK115.out 62
                                  go_wp2
                                  go_meet
                                  case rel => exact ⟨_, (((Int.tmod (wrap64 (Int.tdiv a1 256)) 4) == 2)), (by first | rfl | (simp; done) | (simp [*]; done)), H', ⟨by have := HJ6.out; have := HJ10.out; have := HJ15.out; have := HJ38.out; first | omega | exact Nat.le_refl _⟩, ⟨by (with_reducible repeat (first | refine blk_drewN ?_ _ | refine blk_drew ?_ | refine blk_alloc ?_ _)); exact BK115.out⟩, ⟨by repeat (first | (with_reducible first | exact HB.out | apply below_alloc | apply pw_below_drewN | apply below_drew1 | refine below_set ?_ GE115.out) | exact HB.out)⟩⟩
                              case rest =>
                                clear HC43
                                try clear c1
                                try clear c2
                                try clear p2
                                try clear c3
                                try clear c4
                                try clear c5
                                try clear c5b0
                                try clear c5b1
                                try clear p6
                                try clear c9
                                try clear c10
                                try clear c11
                                try clear c12
                                try clear c12b0
                                try clear c12b1
                                try clear c15
                                try clear c16
                                try clear c17
                                try clear c17b0
                                try clear c17b1
                                try clear c18
                                try clear c18b0
                                try clear c18b1
                                try clear c19
                                try clear c21
                                try clear c21b0
                                try clear c21b1
                                try clear c23
                                try clear c23b0
                                try clear c23b1
                                try clear c25
                                try clear c26
                                try clear c26b0
                                try clear c26b1
                                try clear c30
                                try clear c30b0
                                try clear c30b1
                                try clear c33
                                try clear c34
                                try clear c34b0
                                try clear c34b1
                                try clear c35
                                try clear c35b0
                                try clear c35b1
                                try clear c40
                                try clear c40b0
                                try clear c40b1
                                try clear c41
                                try clear c42
                                try clear c45
                                try clear c45b0
                                try clear c45b1
                                try clear hcz13_33
                                try clear hcz13_34
                                try clear hcz13_38
                                try clear hcz13_44
                                try clear hcz13_52
                                try clear hcz13_58
                                try clear hcz13_62
                                try clear hcz14_33
                                try clear hcz14_34
                                try clear hcz14_38
                                try clear hcz14_44
                                try clear hcz14_52
                                try clear hcz14_58
                                try clear hcz14_62
                                try clear hcz24_33
                                try clear hcz24_34
                                try clear hcz24_38
                                try clear hcz24_44
                                try clear hcz24_52
                                try clear hcz24_58
                                try clear hcz24_62
                                try clear hcz27_33
                                try clear hcz27_34
                                try clear hcz27_38
                                try clear hcz27_44
                                try clear hcz27_52
                                try clear hcz27_58
                                try clear hcz27_62
                                try clear hcz29_33
                                try clear hcz29_34
                                try clear hcz29_38
                                try clear hcz29_44
                                try clear hcz29_52
                                try clear hcz29_58
                                try clear hcz29_62
                                try clear hcz31_33
                                try clear hcz31_34
                                try clear hcz31_38
                                try clear hcz31_44
                                try clear hcz31_52
                                try clear hcz31_58
                                try clear hcz31_62
                                try clear hcz32_33
                                try clear hcz32_34
                                try clear hcz32_38
                                try clear hcz32_44
                                try clear hcz32_52
                                try clear hcz32_58
                                try clear hcz32_62
                                try clear hcz36_33
                                try clear hcz36_34
                                try clear hcz36_38
                                try clear hcz36_44
                                try clear hcz36_52
                                try clear hcz36_58
                                try clear hcz36_62
                                try clear hcz37_33
                                try clear hcz37_34
                                try clear hcz37_38
                                try clear hcz37_44
                                try clear hcz37_52
                                try clear hcz37_58
                                try clear hcz37_62
                                try clear hcz38_33
                                try clear hcz38_34
                                try clear hcz38_38
                                try clear hcz38_44
                                try clear hcz38_52
                                try clear hcz38_58
                                try clear hcz38_62
                                try clear hcz44_33
                                try clear hcz44_34
                                try clear hcz44_38
                                try clear hcz44_44
                                try clear hcz44_52
                                try clear hcz44_58
                                try clear hcz44_62
                                try clear hcz46_33
                                try clear hcz46_34
                                try clear hcz46_38
                                try clear hcz46_44
                                try clear hcz46_52
                                try clear hcz46_58
                                try clear hcz46_62
                                try clear hcz47_33
                                try clear hcz47_34
                                try clear hcz47_38
                                try clear hcz47_44
                                try clear hcz47_52
                                try clear hcz47_58
                                try clear hcz47_62
                                try clear hfz13_33
                                try clear hfz13_34
                                try clear hfz13_38
                                try clear hfz13_44
                                try clear hfz13_52
                                try clear hfz13_58
                                try clear hfz13_62
                                try clear hfz14_33
                                try clear hfz14_34
                                try clear hfz14_38
                                try clear hfz14_44
                                try clear hfz14_52
                                try clear hfz14_58
                                try clear hfz14_62
                                try clear hfz24_33
                                try clear hfz24_34
                                try clear hfz24_38
                                try clear hfz24_44
                                try clear hfz24_52
                                try clear hfz24_58
                                try clear hfz24_62
                                try clear hfz27_33
                                try clear hfz27_34
                                try clear hfz27_38
                                try clear hfz27_44
                                try clear hfz27_52
                                try clear hfz27_58
                                try clear hfz27_62
                                try clear hfz29_33
                                try clear hfz29_34
                                try clear hfz29_38
                                try clear hfz29_44
                                try clear hfz29_52
                                try clear hfz29_58
                                try clear hfz29_62
                                try clear hfz31_33
                                try clear hfz31_34
                                try clear hfz31_38
                                try clear hfz31_44
                                try clear hfz31_52
                                try clear hfz31_58
                                try clear hfz31_62
                                try clear hfz32_33
                                try clear hfz32_34
                                try clear hfz32_38
                                try clear hfz32_44
                                try clear hfz32_52
                                try clear hfz32_58
                                try clear hfz32_62
                                try clear hfz36_33
                                try clear hfz36_34
                                try clear hfz36_38
                                try clear hfz36_44
                                try clear hfz36_52
                                try clear hfz36_58
                                try clear hfz36_62
                                try clear hfz37_33
                                try clear hfz37_34
                                try clear hfz37_38
                                try clear hfz37_44
                                try clear hfz37_52
                                try clear hfz37_58
                                try clear hfz37_62
                                try clear hfz38_33
                                try clear hfz38_34
                                try clear hfz38_38
                                try clear hfz38_44
                                try clear hfz38_52
                                try clear hfz38_58
                                try clear hfz38_62
                                try clear hfz44_33
                                try clear hfz44_34
                                try clear hfz44_38
                                try clear hfz44_44
                                try clear hfz44_52
                                try clear hfz44_58
                                try clear hfz44_62
                                try clear hfz46_33
                                try clear hfz46_34
                                try clear hfz46_38
                                try clear hfz46_44
                                try clear hfz46_52
                                try clear hfz46_58
                                try clear hfz46_62
                                try clear hfz47_33
                                try clear hfz47_34
                                try clear hfz47_38
                                try clear hfz47_44
                                try clear hfz47_52
                                try clear hfz47_58
                                try clear hfz47_62
                                try clear p2
                                try clear p6
                                obtain ⟨kq, x88_42, rfl, HA, HJ42, BK115, HB⟩ := hcut
                                cases kq with
                                | zero => exact absurd HA.out (by simp [mezzanineref11_Check.j5])
                                | succ kj42 =>
                                  have H := HA.out
                                  clear HA
                                  simp only [mezzanineref11_Check.j5] at H
                                  by_cases c48 : x88_42 = true
                                  · subst c48
                                    have H1 : (some 22) = some r := by rw [if_pos rfl] at H; exact H
                                    clear H
                                    have H := H1
                                    clear H1
                                    obtain rfl := Option.some.inj H
                                    go_wp2
                                    go_ret
                                    exact ⟨by first | rfl | (simp [errW_none, errW_some] <;> rfl) | (simp [*, errW_none, errW_some] <;> rfl), by repeat (first | (with_reducible first | exact HB.out | apply below_alloc | apply pw_below_drewN | apply below_drew1 | refine below_set ?_ GE115.out) | exact HB.out)⟩
                                  · replace c48 := Bool.eq_false_iff.mpr c48
                                    subst c48
                                    have H1 : (if a1 = 384 then (if (Go.bits .and .u64 (a0_58 / 1048576) 1) = 1 then (some 22) else (some 0)) else (some 0)) = some r := by rw [if_neg (show ¬ (false = true) by decide)] at H; exact H
                                    clear H
                                    have H := H1
                                    clear H1
                                    by_cases c49 : a1 = 384
                                    · rw [if_pos c49] at H
                                      have c49b0 : (a1 == 384) = true := beq_iff_eq.mpr c49
                                      have c49b1 : (a1 != 384) = false := bne_eq_false_iff_eq.mpr c49
                                      clear c49
                                      by_cases c50 : (Go.bits .and .u64 (a0_58 / 1048576) 1) = 1
                                      · rw [if_pos c50] at H
                                        have c50b0 : ((Go.bits .and .u64 (a0_58 / 1048576) 1) == 1) = true := beq_iff_eq.mpr c50
                                        have c50b1 : ((Go.bits .and .u64 (a0_58 / 1048576) 1) != 1) = false := bne_eq_false_iff_eq.mpr c50
                                        clear c50
                                        obtain rfl := Option.some.inj H
                                        have hcz51_33 : wc.cell? ⟨gb115, 33, none⟩ = some (.int .u8 a0_33) := (blk_cell BK115.out 33).trans rfl
                                        have hcz51_34 : wc.cell? ⟨gb115, 34, none⟩ = some (.bool true) := (blk_cell BK115.out 34).trans rfl
                                        have hcz51_38 : wc.cell? ⟨gb115, 38, none⟩ = some (.int .u64 a0_38) := (blk_cell BK115.out 38).trans rfl
                                        have hcz51_44 : wc.cell? ⟨gb115, 44, none⟩ = some (.int .u64 a0_44) := (blk_cell BK115.out 44).trans rfl
                                        have hcz51_52 : wc.cell? ⟨gb115, 52, none⟩ = some (.int .u64 a0_52) := (blk_cell BK115.out 52).trans rfl
                                        have hcz51_58 : wc.cell? ⟨gb115, 58, none⟩ = some (.int .u64 a0_58) := (blk_cell BK115.out 58).trans rfl
                                        have hcz51_62 : wc.cell? ⟨gb115, 62, none⟩ = some (.int .u64 a0_62) := (blk_cell BK115.out 62).trans rfl
                                        have hfz51_33 := blk_frozen BK115.out 33
                                        have hfz51_34 := blk_frozen BK115.out 34
                                        have hfz51_38 := blk_frozen BK115.out 38
                                        have hfz51_44 := blk_frozen BK115.out 44
                                        have hfz51_52 := blk_frozen BK115.out 52
                                        have hfz51_58 := blk_frozen BK115.out 58
                                        have hfz51_62 := blk_frozen BK115.out 62
                                        go_wp2
                                        go_ret
                                        exact ⟨by first | rfl | (simp [errW_none, errW_some] <;> rfl) | (simp [*, errW_none, errW_some] <;> rfl), by repeat (first | (with_reducible first | exact HB.out | apply below_alloc | apply pw_below_drewN | apply below_drew1 | refine below_set ?_ GE115.out) | exact HB.out)⟩
                                      · rw [if_neg c50] at H
                                        have c50b0 : ((Go.bits .and .u64 (a0_58 / 1048576) 1) == 1) = false := beq_eq_false_iff_ne.mpr c50
                                        have c50b1 : ((Go.bits .and .u64 (a0_58 / 1048576) 1) != 1) = true := bne_iff_ne.mpr c50
                                        obtain rfl := Option.some.inj H
                                        have hcz52_33 : wc.cell? ⟨gb115, 33, none⟩ = some (.int .u8 a0_33) := (blk_cell BK115.out 33).trans rfl
                                        have hcz52_34 : wc.cell? ⟨gb115, 34, none⟩ = some (.bool true) := (blk_cell BK115.out 34).trans rfl
                                        have hcz52_38 : wc.cell? ⟨gb115, 38, none⟩ = some (.int .u64 a0_38) := (blk_cell BK115.out 38).trans rfl
                                        have hcz52_44 : wc.cell? ⟨gb115, 44, none⟩ = some (.int .u64 a0_44) := (blk_cell BK115.out 44).trans rfl
                                        have hcz52_52 : wc.cell? ⟨gb115, 52, none⟩ = some (.int .u64 a0_52) := (blk_cell BK115.out 52).trans rfl
                                        have hcz52_58 : wc.cell? ⟨gb115, 58, none⟩ = some (.int .u64 a0_58) := (blk_cell BK115.out 58).trans rfl
                                        have hcz52_62 : wc.cell? ⟨gb115, 62, none⟩ = some (.int .u64 a0_62) := (blk_cell BK115.out 62).trans rfl
                                        have hfz52_33 := blk_frozen BK115.out 33
                                        have hfz52_34 := blk_frozen BK115.out 34
                                        have hfz52_38 := blk_frozen BK115.out 38
                                        have hfz52_44 := blk_frozen BK115.out 44
                                        have hfz52_52 := blk_frozen BK115.out 52
                                        have hfz52_58 := blk_frozen BK115.out 58
                                        have hfz52_62 := blk_frozen BK115.out 62
                                        go_wp2
                                        go_ret
                                        exact ⟨by first | rfl | (simp [errW_none, errW_some] <;> rfl) | (simp [*, errW_none, errW_some] <;> rfl), by repeat (first | (with_reducible first | exact HB.out | apply below_alloc | apply pw_below_drewN | apply below_drew1 | refine below_set ?_ GE115.out) | exact HB.out)⟩
                                    · rw [if_neg c49] at H
                                      have c49b0 : (a1 == 384) = false := beq_eq_false_iff_ne.mpr c49
                                      have c49b1 : (a1 != 384) = true := bne_iff_ne.mpr c49
                                      obtain rfl := Option.some.inj H
                                      go_wp2
                                      go_ret
                                      exact ⟨by first | rfl | (simp [errW_none, errW_some] <;> rfl) | (simp [*, errW_none, errW_some] <;> rfl), by repeat (first | (with_reducible first | exact HB.out | apply below_alloc | apply pw_below_drewN | apply below_drew1 | refine below_set ?_ GE115.out) | exact HB.out)⟩
                            · replace c42 := Bool.eq_false_iff.mpr c42
                              subst c42
                              have H1 : (if a0_33 = 0 then (some 2) else (if a1 = 384 then (if (Go.bits .and .u64 (a0_38 / 1048576) 1) = 1 then (some 2) else (some 0)) else (if a1 = 1664 then (if (Go.bits .and .u64 (a0_38 / 1048576) 1) = 1 then (some 2) else (some 0)) else (some 0)))) = some r := by rw [if_neg (show ¬ (false = true) by decide)] at H; exact H
                              clear H
                              have H := H1
                              clear H1
                              by_cases c53 : a0_33 = 0
                              · rw [if_pos c53] at H
                                have c53b0 : (a0_33 == 0) = true := beq_iff_eq.mpr c53
                                have c53b1 : (a0_33 != 0) = false := bne_eq_false_iff_eq.mpr c53
                                clear c53
                                obtain rfl := Option.some.inj H
                                have hcz54_33 : wc.cell? ⟨gb115, 33, none⟩ = some (.int .u8 a0_33) := (blk_cell BK115.out 33).trans rfl
                                have hcz54_34 : wc.cell? ⟨gb115, 34, none⟩ = some (.bool false) := (blk_cell BK115.out 34).trans rfl
                                have hcz54_38 : wc.cell? ⟨gb115, 38, none⟩ = some (.int .u64 a0_38) := (blk_cell BK115.out 38).trans rfl
                                have hcz54_44 : wc.cell? ⟨gb115, 44, none⟩ = some (.int .u64 a0_44) := (blk_cell BK115.out 44).trans rfl
                                have hcz54_52 : wc.cell? ⟨gb115, 52, none⟩ = some (.int .u64 a0_52) := (blk_cell BK115.out 52).trans rfl
                                have hcz54_58 : wc.cell? ⟨gb115, 58, none⟩ = some (.int .u64 a0_58) := (blk_cell BK115.out 58).trans rfl
                                have hcz54_62 : wc.cell? ⟨gb115, 62, none⟩ = some (.int .u64 a0_62) := (blk_cell BK115.out 62).trans rfl
                                have hfz54_33 := blk_frozen BK115.out 33
                                have hfz54_34 := blk_frozen BK115.out 34
                                have hfz54_38 := blk_frozen BK115.out 38
                                have hfz54_44 := blk_frozen BK115.out 44
                                have hfz54_52 := blk_frozen BK115.out 52
                                have hfz54_58 := blk_frozen BK115.out 58
                                have hfz54_62 := blk_frozen BK115.out 62
                                go_wp2
                                go_ret
                                exact ⟨by first | rfl | (simp [errW_none, errW_some] <;> rfl) | (simp [*, errW_none, errW_some] <;> rfl), by repeat (first | (with_reducible first | exact HB.out | apply below_alloc | apply pw_below_drewN | apply below_drew1 | refine below_set ?_ GE115.out) | exact HB.out)⟩
                              · rw [if_neg c53] at H
                                have c53b0 : (a0_33 == 0) = false := beq_eq_false_iff_ne.mpr c53
                                have c53b1 : (a0_33 != 0) = true := bne_iff_ne.mpr c53
                                by_cases c55 : a1 = 384
                                · rw [if_pos c55] at H
                                  have c55b0 : (a1 == 384) = true := beq_iff_eq.mpr c55
                                  have c55b1 : (a1 != 384) = false := bne_eq_false_iff_eq.mpr c55
                                  clear c55
                                  by_cases c56 : (Go.bits .and .u64 (a0_38 / 1048576) 1) = 1
                                  · rw [if_pos c56] at H
                                    have c56b0 : ((Go.bits .and .u64 (a0_38 / 1048576) 1) == 1) = true := beq_iff_eq.mpr c56
                                    have c56b1 : ((Go.bits .and .u64 (a0_38 / 1048576) 1) != 1) = false := bne_eq_false_iff_eq.mpr c56
                                    clear c56
                                    obtain rfl := Option.some.inj H
                                    have hcz57_33 : wc.cell? ⟨gb115, 33, none⟩ = some (.int .u8 a0_33) := (blk_cell BK115.out 33).trans rfl
                                    have hcz57_34 : wc.cell? ⟨gb115, 34, none⟩ = some (.bool false) := (blk_cell BK115.out 34).trans rfl
                                    have hcz57_38 : wc.cell? ⟨gb115, 38, none⟩ = some (.int .u64 a0_38) := (blk_cell BK115.out 38).trans rfl
                                    have hcz57_44 : wc.cell? ⟨gb115, 44, none⟩ = some (.int .u64 a0_44) := (blk_cell BK115.out 44).trans rfl
                                    have hcz57_52 : wc.cell? ⟨gb115, 52, none⟩ = some (.int .u64 a0_52) := (blk_cell BK115.out 52).trans rfl
                                    have hcz57_58 : wc.cell? ⟨gb115, 58, none⟩ = some (.int .u64 a0_58) := (blk_cell BK115.out 58).trans rfl
                                    have hcz57_62 : wc.cell? ⟨gb115, 62, none⟩ = some (.int .u64 a0_62) := (blk_cell BK115.out 62).trans rfl
                                    have hfz57_33 := blk_frozen BK115.out 33
                                    have hfz57_34 := blk_frozen BK115.out 34
                                    have hfz57_38 := blk_frozen BK115.out 38
                                    have hfz57_44 := blk_frozen BK115.out 44
                                    have hfz57_52 := blk_frozen BK115.out 52
                                    have hfz57_58 := blk_frozen BK115.out 58
                                    have hfz57_62 := blk_frozen BK115.out 62
                                    go_wp2
                                    go_ret
                                    exact ⟨by first | rfl | (simp [errW_none, errW_some] <;> rfl) | (simp [*, errW_none, errW_some] <;> rfl), by repeat (first | (with_reducible first | exact HB.out | apply below_alloc | apply pw_below_drewN | apply below_drew1 | refine below_set ?_ GE115.out) | exact HB.out)⟩
                                  · rw [if_neg c56] at H
                                    have c56b0 : ((Go.bits .and .u64 (a0_38 / 1048576) 1) == 1) = false := beq_eq_false_iff_ne.mpr c56
                                    have c56b1 : ((Go.bits .and .u64 (a0_38 / 1048576) 1) != 1) = true := bne_iff_ne.mpr c56
                                    obtain rfl := Option.some.inj H
                                    have hcz58_33 : wc.cell? ⟨gb115, 33, none⟩ = some (.int .u8 a0_33) := (blk_cell BK115.out 33).trans rfl
                                    have hcz58_34 : wc.cell? ⟨gb115, 34, none⟩ = some (.bool false) := (blk_cell BK115.out 34).trans rfl
                                    have hcz58_38 : wc.cell? ⟨gb115, 38, none⟩ = some (.int .u64 a0_38) := (blk_cell BK115.out 38).trans rfl
                                    have hcz58_44 : wc.cell? ⟨gb115, 44, none⟩ = some (.int .u64 a0_44) := (blk_cell BK115.out 44).trans rfl
                                    have hcz58_52 : wc.cell? ⟨gb115, 52, none⟩ = some (.int .u64 a0_52) := (blk_cell BK115.out 52).trans rfl
                                    have hcz58_58 : wc.cell? ⟨gb115, 58, none⟩ = some (.int .u64 a0_58) := (blk_cell BK115.out 58).trans rfl
                                    have hcz58_62 : wc.cell? ⟨gb115, 62, none⟩ = some (.int .u64 a0_62) := (blk_cell BK115.out 62).trans rfl
                                    have hfz58_33 := blk_frozen BK115.out 33
                                    have hfz58_34 := blk_frozen BK115.out 34
                                    have hfz58_38 := blk_frozen BK115.out 38
                                    have hfz58_44 := blk_frozen BK115.out 44
                                    have hfz58_52 := blk_frozen BK115.out 52
                                    have hfz58_58 := blk_frozen BK115.out 58
                                    have hfz58_62 := blk_frozen BK115.out 62
                                    go_wp2
                                    go_ret
                                    exact ⟨by first | rfl | (simp [errW_none, errW_some] <;> rfl) | (simp [*, errW_none, errW_some] <;> rfl), by repeat (first | (with_reducible first | exact HB.out | apply below_alloc | apply pw_below_drewN | apply below_drew1 | refine below_set ?_ GE115.out) | exact HB.out)⟩
                                · rw [if_neg c55] at H
                                  have c55b0 : (a1 == 384) = false := beq_eq_false_iff_ne.mpr c55
                                  have c55b1 : (a1 != 384) = true := bne_iff_ne.mpr c55
                                  by_cases c59 : a1 = 1664
                                  · rw [if_pos c59] at H
                                    have c59b0 : (a1 == 1664) = true := beq_iff_eq.mpr c59
                                    have c59b1 : (a1 != 1664) = false := bne_eq_false_iff_eq.mpr c59
                                    clear c59
                                    by_cases c60 : (Go.bits .and .u64 (a0_38 / 1048576) 1) = 1
                                    · rw [if_pos c60] at H
                                      have c60b0 : ((Go.bits .and .u64 (a0_38 / 1048576) 1) == 1) = true := beq_iff_eq.mpr c60
                                      have c60b1 : ((Go.bits .and .u64 (a0_38 / 1048576) 1) != 1) = false := bne_eq_false_iff_eq.mpr c60
                                      clear c60
                                      obtain rfl := Option.some.inj H
                                      have hcz61_33 : wc.cell? ⟨gb115, 33, none⟩ = some (.int .u8 a0_33) := (blk_cell BK115.out 33).trans rfl
                                      have hcz61_34 : wc.cell? ⟨gb115, 34, none⟩ = some (.bool false) := (blk_cell BK115.out 34).trans rfl
                                      have hcz61_38 : wc.cell? ⟨gb115, 38, none⟩ = some (.int .u64 a0_38) := (blk_cell BK115.out 38).trans rfl
                                      have hcz61_44 : wc.cell? ⟨gb115, 44, none⟩ = some (.int .u64 a0_44) := (blk_cell BK115.out 44).trans rfl
                                      have hcz61_52 : wc.cell? ⟨gb115, 52, none⟩ = some (.int .u64 a0_52) := (blk_cell BK115.out 52).trans rfl
                                      have hcz61_58 : wc.cell? ⟨gb115, 58, none⟩ = some (.int .u64 a0_58) := (blk_cell BK115.out 58).trans rfl
                                      have hcz61_62 : wc.cell? ⟨gb115, 62, none⟩ = some (.int .u64 a0_62) := (blk_cell BK115.out 62).trans rfl
                                      have hfz61_33 := blk_frozen BK115.out 33
                                      have hfz61_34 := blk_frozen BK115.out 34
                                      have hfz61_38 := blk_frozen BK115.out 38
                                      have hfz61_44 := blk_frozen BK115.out 44
                                      have hfz61_52 := blk_frozen BK115.out 52
                                      have hfz61_58 := blk_frozen BK115.out 58
                                      have hfz61_62 := blk_frozen BK115.out 62
                                      go_wp2
                                      go_ret
                                      exact ⟨by first | rfl | (simp [errW_none, errW_some] <;> rfl) | (simp [*, errW_none, errW_some] <;> rfl), by repeat (first | (with_reducible first | exact HB.out | apply below_alloc | apply pw_below_drewN | apply below_drew1 | refine below_set ?_ GE115.out) | exact HB.out)⟩
                                    · rw [if_neg c60] at H
                                      have c60b0 : ((Go.bits .and .u64 (a0_38 / 1048576) 1) == 1) = false := beq_eq_false_iff_ne.mpr c60
                                      have c60b1 : ((Go.bits .and .u64 (a0_38 / 1048576) 1) != 1) = true := bne_iff_ne.mpr c60
                                      obtain rfl := Option.some.inj H
                                      have hcz62_33 : wc.cell? ⟨gb115, 33, none⟩ = some (.int .u8 a0_33) := (blk_cell BK115.out 33).trans rfl
                                      have hcz62_34 : wc.cell? ⟨gb115, 34, none⟩ = some (.bool false) := (blk_cell BK115.out 34).trans rfl
                                      have hcz62_38 : wc.cell? ⟨gb115, 38, none⟩ = some (.int .u64 a0_38) := (blk_cell BK115.out 38).trans rfl
                                      have hcz62_44 : wc.cell? ⟨gb115, 44, none⟩ = some (.int .u64 a0_44) := (blk_cell BK115.out 44).trans rfl
                                      have hcz62_52 : wc.cell? ⟨gb115, 52, none⟩ = some (.int .u64 a0_52) := (blk_cell BK115.out 52).trans rfl
                                      have hcz62_58 : wc.cell? ⟨gb115, 58, none⟩ = some (.int .u64 a0_58) := (blk_cell BK115.out 58).trans rfl
                                      have hcz62_62 : wc.cell? ⟨gb115, 62, none⟩ = some (.int .u64 a0_62) := (blk_cell BK115.out 62).trans rfl
                                      have hfz62_33 := blk_frozen BK115.out 33
                                      have hfz62_34 := blk_frozen BK115.out 34
                                      have hfz62_38 := blk_frozen BK115.out 38
                                      have hfz62_44 := blk_frozen BK115.out 44
                                      have hfz62_52 := blk_frozen BK115.out 52
                                      have hfz62_58 := blk_frozen BK115.out 58
                                      have hfz62_62 := blk_frozen BK115.out 62
                                      go_wp2
                                      go_ret
                                      exact ⟨by first | rfl | (simp [errW_none, errW_some] <;> rfl) | (simp [*, errW_none, errW_some] <;> rfl), by repeat (first | (with_reducible first | exact HB.out | apply below_alloc | apply pw_below_drewN | apply below_drew1 | refine below_set ?_ GE115.out) | exact HB.out)⟩
                                  · rw [if_neg c59] at H
                                    have c59b0 : (a1 == 1664) = false := beq_eq_false_iff_ne.mpr c59
                                    have c59b1 : (a1 != 1664) = true := bne_iff_ne.mpr c59
                                    obtain rfl := Option.some.inj H
                                    have hcz63_33 : wc.cell? ⟨gb115, 33, none⟩ = some (.int .u8 a0_33) := (blk_cell BK115.out 33).trans rfl
                                    have hcz63_34 : wc.cell? ⟨gb115, 34, none⟩ = some (.bool false) := (blk_cell BK115.out 34).trans rfl
                                    have hcz63_38 : wc.cell? ⟨gb115, 38, none⟩ = some (.int .u64 a0_38) := (blk_cell BK115.out 38).trans rfl
                                    have hcz63_44 : wc.cell? ⟨gb115, 44, none⟩ = some (.int .u64 a0_44) := (blk_cell BK115.out 44).trans rfl
                                    have hcz63_52 : wc.cell? ⟨gb115, 52, none⟩ = some (.int .u64 a0_52) := (blk_cell BK115.out 52).trans rfl
                                    have hcz63_58 : wc.cell? ⟨gb115, 58, none⟩ = some (.int .u64 a0_58) := (blk_cell BK115.out 58).trans rfl
                                    have hcz63_62 : wc.cell? ⟨gb115, 62, none⟩ = some (.int .u64 a0_62) := (blk_cell BK115.out 62).trans rfl
                                    have hfz63_33 := blk_frozen BK115.out 33
                                    have hfz63_34 := blk_frozen BK115.out 34
                                    have hfz63_38 := blk_frozen BK115.out 38
                                    have hfz63_44 := blk_frozen BK115.out 44
                                    have hfz63_52 := blk_frozen BK115.out 52
                                    have hfz63_58 := blk_frozen BK115.out 58
                                    have hfz63_62 := blk_frozen BK115.out 62
                                    go_wp2
                                    go_ret
                                    exact ⟨by first | rfl | (simp [errW_none, errW_some] <;> rfl) | (simp [*, errW_none, errW_some] <;> rfl), by repeat (first | (with_reducible first | exact HB.out | apply below_alloc | apply pw_below_drewN | apply below_drew1 | refine below_set ?_ GE115.out) | exact HB.out)⟩

end Go.Proofs.YtbmmafebekehdaaDoor.Q
