/- Where the Lean function of a Go function gives a value, the Go call returns that value and changes nothing that was there: for every input. (By a program of this session, and by hand.) -/
import Derived.Test.YtbmmafebekehdaaDoorQx0
import Derived.Test.YtbmmafebekehdaaDoorQx1
import Derived.Test.YtbmmafebekehdaaDoorQx2
namespace Go.Proofs.YtbmmafebekehdaaDoor.Q
open Go.Proofs.YtbmmafebekehdaaDoor.Bv (exec_load_cells CellsAnd)
open Go.RowKit Go.Proofs.YtbmmafebekehdaaDoorW.PrintWords Go.Proofs.YtbmmafebekehdaaDoorW.PrintLast Go.Proofs.YtbmmafebekehdaaDoorW.PrintMore
attribute [local go_sem] max2_int min2_int max_two min_two max_three min_three max_four min_four   -- for this text's walks alone
set_option linter.unusedVariables false
set_option linter.unusedSimpArgs false

/-! ### csrno_Check: function 15 -/
mutual
def csrno_Check.j0 : Nat → Int → Bool → Int → Int → Int → Int → Int → Int → Int → Int → Int → Int → Int → Int → Int → Int → Int → Int → Int → Int → Int → Int → Int → Int → Int → Int → Int → Int → Int → Int → Int → Int → Int → Int → Int → Int → Bool → Bool → Bool → Int → Int → Int → Int → Int → Int → Int → Int → Int → Int → Int → Int → Int → Int → Int → Int → Int → Int → Int → Int → Int → Int → Int → Int → Int → Int → Int → Int → Int → Int → Int → Int → Int → Int → Int → Int → Int → Int → Int → Int → Option (Int)
  | 0, _, _, _, _, _, _, _, _, _, _, _, _, _, _, _, _, _, _, _, _, _, _, _, _, _, _, _, _, _, _, _, _, _, _, _, _, _, _, _, _, _, _, _, _, _, _, _, _, _, _, _, _, _, _, _, _, _, _, _, _, _, _, _, _, _, _, _, _, _, _, _, _, _, _, _, _, _, _, _ => none
  | k + 1, x1, x18, x104000, x104001, x104002, x104003, x104004, x104005, x104006, x104007, x104008, x104009, x104010, x104011, x104012, x104013, x104014, x104015, x104016, x104017, x104018, x104019, x104020, x104021, x104022, x104023, x104024, x104025, x104026, x104027, x104028, x104029, x104030, x104031, x104032, x104033, x104034, x104035, x104036, x104037, x104038, x104039, x104040, x104041, x104042, x104043, x104044, x104045, x104046, x104047, x104048, x104049, x104050, x104051, x104052, x104053, x104054, x104055, x104056, x104057, x104058, x104059, x104060, x104061, x104062, x104063, x104064, x104065, x104066, x104067, x104068, x104069, x104070, x104071, x104072, x104073, x104074, x104075, x104076 => if x18 = true then (some 2) else (if x104033 = 0 then (csrno_Check.j1 k x1 false x104000 x104001 x104002 x104003 x104004 x104005 x104006 x104007 x104008 x104009 x104010 x104011 x104012 x104013 x104014 x104015 x104016 x104017 x104018 x104019 x104020 x104021 x104022 x104023 x104024 x104025 x104026 x104027 x104028 x104029 x104030 x104031 x104032 x104033 x104034 x104035 x104036 x104037 x104038 x104039 x104040 x104041 x104042 x104043 x104044 x104045 x104046 x104047 x104048 x104049 x104050 x104051 x104052 x104053 x104054 x104055 x104056 x104057 x104058 x104059 x104060 x104061 x104062 x104063 x104064 x104065 x104066 x104067 x104068 x104069 x104070 x104071 x104072 x104073 x104074 x104075 x104076) else (csrno_Check.j1 k x1 (x104033 != 1) x104000 x104001 x104002 x104003 x104004 x104005 x104006 x104007 x104008 x104009 x104010 x104011 x104012 x104013 x104014 x104015 x104016 x104017 x104018 x104019 x104020 x104021 x104022 x104023 x104024 x104025 x104026 x104027 x104028 x104029 x104030 x104031 x104032 x104033 x104034 x104035 x104036 x104037 x104038 x104039 x104040 x104041 x104042 x104043 x104044 x104045 x104046 x104047 x104048 x104049 x104050 x104051 x104052 x104053 x104054 x104055 x104056 x104057 x104058 x104059 x104060 x104061 x104062 x104063 x104064 x104065 x104066 x104067 x104068 x104069 x104070 x104071 x104072 x104073 x104074 x104075 x104076))
def csrno_Check.j1 : Nat → Int → Bool → Int → Int → Int → Int → Int → Int → Int → Int → Int → Int → Int → Int → Int → Int → Int → Int → Int → Int → Int → Int → Int → Int → Int → Int → Int → Int → Int → Int → Int → Int → Int → Int → Int → Int → Bool → Bool → Bool → Int → Int → Int → Int → Int → Int → Int → Int → Int → Int → Int → Int → Int → Int → Int → Int → Int → Int → Int → Int → Int → Int → Int → Int → Int → Int → Int → Int → Int → Int → Int → Int → Int → Int → Int → Int → Int → Int → Int → Int → Option (Int)
  | 0, _, _, _, _, _, _, _, _, _, _, _, _, _, _, _, _, _, _, _, _, _, _, _, _, _, _, _, _, _, _, _, _, _, _, _, _, _, _, _, _, _, _, _, _, _, _, _, _, _, _, _, _, _, _, _, _, _, _, _, _, _, _, _, _, _, _, _, _, _, _, _, _, _, _, _, _, _, _, _ => none
  | k + 1, x1, x26, x104000, x104001, x104002, x104003, x104004, x104005, x104006, x104007, x104008, x104009, x104010, x104011, x104012, x104013, x104014, x104015, x104016, x104017, x104018, x104019, x104020, x104021, x104022, x104023, x104024, x104025, x104026, x104027, x104028, x104029, x104030, x104031, x104032, x104033, x104034, x104035, x104036, x104037, x104038, x104039, x104040, x104041, x104042, x104043, x104044, x104045, x104046, x104047, x104048, x104049, x104050, x104051, x104052, x104053, x104054, x104055, x104056, x104057, x104058, x104059, x104060, x104061, x104062, x104063, x104064, x104065, x104066, x104067, x104068, x104069, x104070, x104071, x104072, x104073, x104074, x104075, x104076 => if x26 = true then (some 0) else (if x1 ≥ 3072 then (csrno_Check.j2 k x1 (Go.bits .and .i64 (x1 / 256) 3) (decide (x1 ≤ 3074)) x104000 x104001 x104002 x104003 x104004 x104005 x104006 x104007 x104008 x104009 x104010 x104011 x104012 x104013 x104014 x104015 x104016 x104017 x104018 x104019 x104020 x104021 x104022 x104023 x104024 x104025 x104026 x104027 x104028 x104029 x104030 x104031 x104032 x104033 x104034 x104035 x104036 x104037 x104038 x104039 x104040 x104041 x104042 x104043 x104044 x104045 x104046 x104047 x104048 x104049 x104050 x104051 x104052 x104053 x104054 x104055 x104056 x104057 x104058 x104059 x104060 x104061 x104062 x104063 x104064 x104065 x104066 x104067 x104068 x104069 x104070 x104071 x104072 x104073 x104074 x104075 x104076) else (csrno_Check.j2 k x1 (Go.bits .and .i64 (x1 / 256) 3) false x104000 x104001 x104002 x104003 x104004 x104005 x104006 x104007 x104008 x104009 x104010 x104011 x104012 x104013 x104014 x104015 x104016 x104017 x104018 x104019 x104020 x104021 x104022 x104023 x104024 x104025 x104026 x104027 x104028 x104029 x104030 x104031 x104032 x104033 x104034 x104035 x104036 x104037 x104038 x104039 x104040 x104041 x104042 x104043 x104044 x104045 x104046 x104047 x104048 x104049 x104050 x104051 x104052 x104053 x104054 x104055 x104056 x104057 x104058 x104059 x104060 x104061 x104062 x104063 x104064 x104065 x104066 x104067 x104068 x104069 x104070 x104071 x104072 x104073 x104074 x104075 x104076))
def csrno_Check.j2 : Nat → Int → Int → Bool → Int → Int → Int → Int → Int → Int → Int → Int → Int → Int → Int → Int → Int → Int → Int → Int → Int → Int → Int → Int → Int → Int → Int → Int → Int → Int → Int → Int → Int → Int → Int → Int → Int → Int → Bool → Bool → Bool → Int → Int → Int → Int → Int → Int → Int → Int → Int → Int → Int → Int → Int → Int → Int → Int → Int → Int → Int → Int → Int → Int → Int → Int → Int → Int → Int → Int → Int → Int → Int → Int → Int → Int → Int → Int → Int → Int → Int → Int → Option (Int)
  | 0, _, _, _, _, _, _, _, _, _, _, _, _, _, _, _, _, _, _, _, _, _, _, _, _, _, _, _, _, _, _, _, _, _, _, _, _, _, _, _, _, _, _, _, _, _, _, _, _, _, _, _, _, _, _, _, _, _, _, _, _, _, _, _, _, _, _, _, _, _, _, _, _, _, _, _, _, _, _, _, _ => none
  | k + 1, x1, x7, x30, x104000, x104001, x104002, x104003, x104004, x104005, x104006, x104007, x104008, x104009, x104010, x104011, x104012, x104013, x104014, x104015, x104016, x104017, x104018, x104019, x104020, x104021, x104022, x104023, x104024, x104025, x104026, x104027, x104028, x104029, x104030, x104031, x104032, x104033, x104034, x104035, x104036, x104037, x104038, x104039, x104040, x104041, x104042, x104043, x104044, x104045, x104046, x104047, x104048, x104049, x104050, x104051, x104052, x104053, x104054, x104055, x104056, x104057, x104058, x104059, x104060, x104061, x104062, x104063, x104064, x104065, x104066, x104067, x104068, x104069, x104070, x104071, x104072, x104073, x104074, x104075, x104076 => if x30 = true then (if 0 ≤ (Go.bits .and .i64 x1 3) then ((csrno_counter.f k x104000 x104001 x104002 x104003 x104004 x104005 x104006 x104007 x104008 x104009 x104010 x104011 x104012 x104013 x104014 x104015 x104016 x104017 x104018 x104019 x104020 x104021 x104022 x104023 x104024 x104025 x104026 x104027 x104028 x104029 x104030 x104031 x104032 x104033 x104034 x104035 x104036 x104037 x104038 x104039 x104040 x104041 x104042 x104043 x104044 x104045 x104046 x104047 x104048 x104049 x104050 x104051 x104052 x104053 x104054 x104055 x104056 x104057 x104058 x104059 x104060 x104061 x104062 x104063 x104064 x104065 x104066 x104067 x104068 x104069 x104070 x104071 x104072 x104073 x104074 x104075 x104076 (shl .u64 1 (Go.bits .and .i64 x1 3))).bind fun t105 => (some t105)) else (none)) else (if x7 = 3 then (csrno_Check.j3 k x1 x7 true x104000 x104001 x104002 x104003 x104004 x104005 x104006 x104007 x104008 x104009 x104010 x104011 x104012 x104013 x104014 x104015 x104016 x104017 x104018 x104019 x104020 x104021 x104022 x104023 x104024 x104025 x104026 x104027 x104028 x104029 x104030 x104031 x104032 x104033 x104034 x104035 x104036 x104037 x104038 x104039 x104040 x104041 x104042 x104043 x104044 x104045 x104046 x104047 x104048 x104049 x104050 x104051 x104052 x104053 x104054 x104055 x104056 x104057 x104058 x104059 x104060 x104061 x104062 x104063 x104064 x104065 x104066 x104067 x104068 x104069 x104070 x104071 x104072 x104073 x104074 x104075 x104076) else (csrno_Check.j3 k x1 x7 (x7 == 0) x104000 x104001 x104002 x104003 x104004 x104005 x104006 x104007 x104008 x104009 x104010 x104011 x104012 x104013 x104014 x104015 x104016 x104017 x104018 x104019 x104020 x104021 x104022 x104023 x104024 x104025 x104026 x104027 x104028 x104029 x104030 x104031 x104032 x104033 x104034 x104035 x104036 x104037 x104038 x104039 x104040 x104041 x104042 x104043 x104044 x104045 x104046 x104047 x104048 x104049 x104050 x104051 x104052 x104053 x104054 x104055 x104056 x104057 x104058 x104059 x104060 x104061 x104062 x104063 x104064 x104065 x104066 x104067 x104068 x104069 x104070 x104071 x104072 x104073 x104074 x104075 x104076))
def csrno_Check.j3 : Nat → Int → Int → Bool → Int → Int → Int → Int → Int → Int → Int → Int → Int → Int → Int → Int → Int → Int → Int → Int → Int → Int → Int → Int → Int → Int → Int → Int → Int → Int → Int → Int → Int → Int → Int → Int → Int → Int → Bool → Bool → Bool → Int → Int → Int → Int → Int → Int → Int → Int → Int → Int → Int → Int → Int → Int → Int → Int → Int → Int → Int → Int → Int → Int → Int → Int → Int → Int → Int → Int → Int → Int → Int → Int → Int → Int → Int → Int → Int → Int → Int → Int → Option (Int)
  | 0, _, _, _, _, _, _, _, _, _, _, _, _, _, _, _, _, _, _, _, _, _, _, _, _, _, _, _, _, _, _, _, _, _, _, _, _, _, _, _, _, _, _, _, _, _, _, _, _, _, _, _, _, _, _, _, _, _, _, _, _, _, _, _, _, _, _, _, _, _, _, _, _, _, _, _, _, _, _, _, _ => none
  | k + 1, x1, x7, x42, x104000, x104001, x104002, x104003, x104004, x104005, x104006, x104007, x104008, x104009, x104010, x104011, x104012, x104013, x104014, x104015, x104016, x104017, x104018, x104019, x104020, x104021, x104022, x104023, x104024, x104025, x104026, x104027, x104028, x104029, x104030, x104031, x104032, x104033, x104034, x104035, x104036, x104037, x104038, x104039, x104040, x104041, x104042, x104043, x104044, x104045, x104046, x104047, x104048, x104049, x104050, x104051, x104052, x104053, x104054, x104055, x104056, x104057, x104058, x104059, x104060, x104061, x104062, x104063, x104064, x104065, x104066, x104067, x104068, x104069, x104070, x104071, x104072, x104073, x104074, x104075, x104076 => if x42 = true then (some 2) else (if x104034 = true then (if x104033 = 0 then (some 22) else (if x7 = 2 then (some 22) else (if x1 = 384 then (if (Go.bits .and .u64 x104058 1048576) = 0 then (some 0) else (some 22)) else (some 0)))) else (if x104033 = 0 then (some 2) else (if x1 = 384 then (if (Go.bits .and .u64 x104038 1048576) = 0 then (some 0) else (some 2)) else (if x1 = 1664 then (if (Go.bits .and .u64 x104038 1048576) = 0 then (some 0) else (some 2)) else (some 0)))))
end
def csrno_Check.f (k : Nat) (a0_0 : Int) (a0_1 : Int) (a0_2 : Int) (a0_3 : Int) (a0_4 : Int) (a0_5 : Int) (a0_6 : Int) (a0_7 : Int) (a0_8 : Int) (a0_9 : Int) (a0_10 : Int) (a0_11 : Int) (a0_12 : Int) (a0_13 : Int) (a0_14 : Int) (a0_15 : Int) (a0_16 : Int) (a0_17 : Int) (a0_18 : Int) (a0_19 : Int) (a0_20 : Int) (a0_21 : Int) (a0_22 : Int) (a0_23 : Int) (a0_24 : Int) (a0_25 : Int) (a0_26 : Int) (a0_27 : Int) (a0_28 : Int) (a0_29 : Int) (a0_30 : Int) (a0_31 : Int) (a0_32 : Int) (a0_33 : Int) (a0_34 : Bool) (a0_35 : Bool) (a0_36 : Bool) (a0_37 : Int) (a0_38 : Int) (a0_39 : Int) (a0_40 : Int) (a0_41 : Int) (a0_42 : Int) (a0_43 : Int) (a0_44 : Int) (a0_45 : Int) (a0_46 : Int) (a0_47 : Int) (a0_48 : Int) (a0_49 : Int) (a0_50 : Int) (a0_51 : Int) (a0_52 : Int) (a0_53 : Int) (a0_54 : Int) (a0_55 : Int) (a0_56 : Int) (a0_57 : Int) (a0_58 : Int) (a0_59 : Int) (a0_60 : Int) (a0_61 : Int) (a0_62 : Int) (a0_63 : Int) (a0_64 : Int) (a0_65 : Int) (a0_66 : Int) (a0_67 : Int) (a0_68 : Int) (a0_69 : Int) (a0_70 : Int) (a0_71 : Int) (a0_72 : Int) (a0_73 : Int) (a0_74 : Int) (a0_75 : Int) (a0_76 : Int) (a1 : Int) (a2 : Bool) : Option (Int) := (csrno_Known.f a1).bind fun t104 => (if t104 = true then (if a2 = true then (csrno_Check.j0 k a1 ((a1 / 1024) == 3) a0_0 a0_1 a0_2 a0_3 a0_4 a0_5 a0_6 a0_7 a0_8 a0_9 a0_10 a0_11 a0_12 a0_13 a0_14 a0_15 a0_16 a0_17 a0_18 a0_19 a0_20 a0_21 a0_22 a0_23 a0_24 a0_25 a0_26 a0_27 a0_28 a0_29 a0_30 a0_31 a0_32 a0_33 a0_34 a0_35 a0_36 a0_37 a0_38 a0_39 a0_40 a0_41 a0_42 a0_43 a0_44 a0_45 a0_46 a0_47 a0_48 a0_49 a0_50 a0_51 a0_52 a0_53 a0_54 a0_55 a0_56 a0_57 a0_58 a0_59 a0_60 a0_61 a0_62 a0_63 a0_64 a0_65 a0_66 a0_67 a0_68 a0_69 a0_70 a0_71 a0_72 a0_73 a0_74 a0_75 a0_76) else (csrno_Check.j0 k a1 false a0_0 a0_1 a0_2 a0_3 a0_4 a0_5 a0_6 a0_7 a0_8 a0_9 a0_10 a0_11 a0_12 a0_13 a0_14 a0_15 a0_16 a0_17 a0_18 a0_19 a0_20 a0_21 a0_22 a0_23 a0_24 a0_25 a0_26 a0_27 a0_28 a0_29 a0_30 a0_31 a0_32 a0_33 a0_34 a0_35 a0_36 a0_37 a0_38 a0_39 a0_40 a0_41 a0_42 a0_43 a0_44 a0_45 a0_46 a0_47 a0_48 a0_49 a0_50 a0_51 a0_52 a0_53 a0_54 a0_55 a0_56 a0_57 a0_58 a0_59 a0_60 a0_61 a0_62 a0_63 a0_64 a0_65 a0_66 a0_67 a0_68 a0_69 a0_70 a0_71 a0_72 a0_73 a0_74 a0_75 a0_76)) else (csrno_Check.j0 k a1 true a0_0 a0_1 a0_2 a0_3 a0_4 a0_5 a0_6 a0_7 a0_8 a0_9 a0_10 a0_11 a0_12 a0_13 a0_14 a0_15 a0_16 a0_17 a0_18 a0_19 a0_20 a0_21 a0_22 a0_23 a0_24 a0_25 a0_26 a0_27 a0_28 a0_29 a0_30 a0_31 a0_32 a0_33 a0_34 a0_35 a0_36 a0_37 a0_38 a0_39 a0_40 a0_41 a0_42 a0_43 a0_44 a0_45 a0_46 a0_47 a0_48 a0_49 a0_50 a0_51 a0_52 a0_53 a0_54 a0_55 a0_56 a0_57 a0_58 a0_59 a0_60 a0_61 a0_62 a0_63 a0_64 a0_65 a0_66 a0_67 a0_68 a0_69 a0_70 a0_71 a0_72 a0_73 a0_74 a0_75 a0_76))
theorem csrno_Check.mono_l : ∀ k, (∀ y0 y1 y2 y3 y4 y5 y6 y7 y8 y9 y10 y11 y12 y13 y14 y15 y16 y17 y18 y19 y20 y21 y22 y23 y24 y25 y26 y27 y28 y29 y30 y31 y32 y33 y34 y35 y36 y37 y38 y39 y40 y41 y42 y43 y44 y45 y46 y47 y48 y49 y50 y51 y52 y53 y54 y55 y56 y57 y58 y59 y60 y61 y62 y63 y64 y65 y66 y67 y68 y69 y70 y71 y72 y73 y74 y75 y76 y77 y78, LeO (csrno_Check.j0 k y0 y1 y2 y3 y4 y5 y6 y7 y8 y9 y10 y11 y12 y13 y14 y15 y16 y17 y18 y19 y20 y21 y22 y23 y24 y25 y26 y27 y28 y29 y30 y31 y32 y33 y34 y35 y36 y37 y38 y39 y40 y41 y42 y43 y44 y45 y46 y47 y48 y49 y50 y51 y52 y53 y54 y55 y56 y57 y58 y59 y60 y61 y62 y63 y64 y65 y66 y67 y68 y69 y70 y71 y72 y73 y74 y75 y76 y77 y78) (csrno_Check.j0 (k + 1) y0 y1 y2 y3 y4 y5 y6 y7 y8 y9 y10 y11 y12 y13 y14 y15 y16 y17 y18 y19 y20 y21 y22 y23 y24 y25 y26 y27 y28 y29 y30 y31 y32 y33 y34 y35 y36 y37 y38 y39 y40 y41 y42 y43 y44 y45 y46 y47 y48 y49 y50 y51 y52 y53 y54 y55 y56 y57 y58 y59 y60 y61 y62 y63 y64 y65 y66 y67 y68 y69 y70 y71 y72 y73 y74 y75 y76 y77 y78)) ∧ (∀ y0 y1 y2 y3 y4 y5 y6 y7 y8 y9 y10 y11 y12 y13 y14 y15 y16 y17 y18 y19 y20 y21 y22 y23 y24 y25 y26 y27 y28 y29 y30 y31 y32 y33 y34 y35 y36 y37 y38 y39 y40 y41 y42 y43 y44 y45 y46 y47 y48 y49 y50 y51 y52 y53 y54 y55 y56 y57 y58 y59 y60 y61 y62 y63 y64 y65 y66 y67 y68 y69 y70 y71 y72 y73 y74 y75 y76 y77 y78, LeO (csrno_Check.j1 k y0 y1 y2 y3 y4 y5 y6 y7 y8 y9 y10 y11 y12 y13 y14 y15 y16 y17 y18 y19 y20 y21 y22 y23 y24 y25 y26 y27 y28 y29 y30 y31 y32 y33 y34 y35 y36 y37 y38 y39 y40 y41 y42 y43 y44 y45 y46 y47 y48 y49 y50 y51 y52 y53 y54 y55 y56 y57 y58 y59 y60 y61 y62 y63 y64 y65 y66 y67 y68 y69 y70 y71 y72 y73 y74 y75 y76 y77 y78) (csrno_Check.j1 (k + 1) y0 y1 y2 y3 y4 y5 y6 y7 y8 y9 y10 y11 y12 y13 y14 y15 y16 y17 y18 y19 y20 y21 y22 y23 y24 y25 y26 y27 y28 y29 y30 y31 y32 y33 y34 y35 y36 y37 y38 y39 y40 y41 y42 y43 y44 y45 y46 y47 y48 y49 y50 y51 y52 y53 y54 y55 y56 y57 y58 y59 y60 y61 y62 y63 y64 y65 y66 y67 y68 y69 y70 y71 y72 y73 y74 y75 y76 y77 y78)) ∧ (∀ y0 y1 y2 y3 y4 y5 y6 y7 y8 y9 y10 y11 y12 y13 y14 y15 y16 y17 y18 y19 y20 y21 y22 y23 y24 y25 y26 y27 y28 y29 y30 y31 y32 y33 y34 y35 y36 y37 y38 y39 y40 y41 y42 y43 y44 y45 y46 y47 y48 y49 y50 y51 y52 y53 y54 y55 y56 y57 y58 y59 y60 y61 y62 y63 y64 y65 y66 y67 y68 y69 y70 y71 y72 y73 y74 y75 y76 y77 y78 y79, LeO (csrno_Check.j2 k y0 y1 y2 y3 y4 y5 y6 y7 y8 y9 y10 y11 y12 y13 y14 y15 y16 y17 y18 y19 y20 y21 y22 y23 y24 y25 y26 y27 y28 y29 y30 y31 y32 y33 y34 y35 y36 y37 y38 y39 y40 y41 y42 y43 y44 y45 y46 y47 y48 y49 y50 y51 y52 y53 y54 y55 y56 y57 y58 y59 y60 y61 y62 y63 y64 y65 y66 y67 y68 y69 y70 y71 y72 y73 y74 y75 y76 y77 y78 y79) (csrno_Check.j2 (k + 1) y0 y1 y2 y3 y4 y5 y6 y7 y8 y9 y10 y11 y12 y13 y14 y15 y16 y17 y18 y19 y20 y21 y22 y23 y24 y25 y26 y27 y28 y29 y30 y31 y32 y33 y34 y35 y36 y37 y38 y39 y40 y41 y42 y43 y44 y45 y46 y47 y48 y49 y50 y51 y52 y53 y54 y55 y56 y57 y58 y59 y60 y61 y62 y63 y64 y65 y66 y67 y68 y69 y70 y71 y72 y73 y74 y75 y76 y77 y78 y79)) ∧ (∀ y0 y1 y2 y3 y4 y5 y6 y7 y8 y9 y10 y11 y12 y13 y14 y15 y16 y17 y18 y19 y20 y21 y22 y23 y24 y25 y26 y27 y28 y29 y30 y31 y32 y33 y34 y35 y36 y37 y38 y39 y40 y41 y42 y43 y44 y45 y46 y47 y48 y49 y50 y51 y52 y53 y54 y55 y56 y57 y58 y59 y60 y61 y62 y63 y64 y65 y66 y67 y68 y69 y70 y71 y72 y73 y74 y75 y76 y77 y78 y79, LeO (csrno_Check.j3 k y0 y1 y2 y3 y4 y5 y6 y7 y8 y9 y10 y11 y12 y13 y14 y15 y16 y17 y18 y19 y20 y21 y22 y23 y24 y25 y26 y27 y28 y29 y30 y31 y32 y33 y34 y35 y36 y37 y38 y39 y40 y41 y42 y43 y44 y45 y46 y47 y48 y49 y50 y51 y52 y53 y54 y55 y56 y57 y58 y59 y60 y61 y62 y63 y64 y65 y66 y67 y68 y69 y70 y71 y72 y73 y74 y75 y76 y77 y78 y79) (csrno_Check.j3 (k + 1) y0 y1 y2 y3 y4 y5 y6 y7 y8 y9 y10 y11 y12 y13 y14 y15 y16 y17 y18 y19 y20 y21 y22 y23 y24 y25 y26 y27 y28 y29 y30 y31 y32 y33 y34 y35 y36 y37 y38 y39 y40 y41 y42 y43 y44 y45 y46 y47 y48 y49 y50 y51 y52 y53 y54 y55 y56 y57 y58 y59 y60 y61 y62 y63 y64 y65 y66 y67 y68 y69 y70 y71 y72 y73 y74 y75 y76 y77 y78 y79))
  | 0 => ⟨fun _ _ _ _ _ _ _ _ _ _ _ _ _ _ _ _ _ _ _ _ _ _ _ _ _ _ _ _ _ _ _ _ _ _ _ _ _ _ _ _ _ _ _ _ _ _ _ _ _ _ _ _ _ _ _ _ _ _ _ _ _ _ _ _ _ _ _ _ _ _ _ _ _ _ _ _ _ _ _ r h => by simp [csrno_Check.j0] at h, fun _ _ _ _ _ _ _ _ _ _ _ _ _ _ _ _ _ _ _ _ _ _ _ _ _ _ _ _ _ _ _ _ _ _ _ _ _ _ _ _ _ _ _ _ _ _ _ _ _ _ _ _ _ _ _ _ _ _ _ _ _ _ _ _ _ _ _ _ _ _ _ _ _ _ _ _ _ _ _ r h => by simp [csrno_Check.j1] at h, fun _ _ _ _ _ _ _ _ _ _ _ _ _ _ _ _ _ _ _ _ _ _ _ _ _ _ _ _ _ _ _ _ _ _ _ _ _ _ _ _ _ _ _ _ _ _ _ _ _ _ _ _ _ _ _ _ _ _ _ _ _ _ _ _ _ _ _ _ _ _ _ _ _ _ _ _ _ _ _ _ r h => by simp [csrno_Check.j2] at h, fun _ _ _ _ _ _ _ _ _ _ _ _ _ _ _ _ _ _ _ _ _ _ _ _ _ _ _ _ _ _ _ _ _ _ _ _ _ _ _ _ _ _ _ _ _ _ _ _ _ _ _ _ _ _ _ _ _ _ _ _ _ _ _ _ _ _ _ _ _ _ _ _ _ _ _ _ _ _ _ _ r h => by simp [csrno_Check.j3] at h⟩
  | k + 1 => by
    obtain ⟨ih0, ih1, ih2, ih3⟩ := csrno_Check.mono_l k
    refine ⟨?_, ?_, ?_, ?_⟩
    · intro y0 y1 y2 y3 y4 y5 y6 y7 y8 y9 y10 y11 y12 y13 y14 y15 y16 y17 y18 y19 y20 y21 y22 y23 y24 y25 y26 y27 y28 y29 y30 y31 y32 y33 y34 y35 y36 y37 y38 y39 y40 y41 y42 y43 y44 y45 y46 y47 y48 y49 y50 y51 y52 y53 y54 y55 y56 y57 y58 y59 y60 y61 y62 y63 y64 y65 y66 y67 y68 y69 y70 y71 y72 y73 y74 y75 y76 y77 y78
      unfold csrno_Check.j0
      repeat' first
      | (with_reducible exact ih0 _ _ _ _ _ _ _ _ _ _ _ _ _ _ _ _ _ _ _ _ _ _ _ _ _ _ _ _ _ _ _ _ _ _ _ _ _ _ _ _ _ _ _ _ _ _ _ _ _ _ _ _ _ _ _ _ _ _ _ _ _ _ _ _ _ _ _ _ _ _ _ _ _ _ _ _ _ _ _)
      | (with_reducible exact ih1 _ _ _ _ _ _ _ _ _ _ _ _ _ _ _ _ _ _ _ _ _ _ _ _ _ _ _ _ _ _ _ _ _ _ _ _ _ _ _ _ _ _ _ _ _ _ _ _ _ _ _ _ _ _ _ _ _ _ _ _ _ _ _ _ _ _ _ _ _ _ _ _ _ _ _ _ _ _ _)
      | (with_reducible exact ih2 _ _ _ _ _ _ _ _ _ _ _ _ _ _ _ _ _ _ _ _ _ _ _ _ _ _ _ _ _ _ _ _ _ _ _ _ _ _ _ _ _ _ _ _ _ _ _ _ _ _ _ _ _ _ _ _ _ _ _ _ _ _ _ _ _ _ _ _ _ _ _ _ _ _ _ _ _ _ _ _)
      | (with_reducible exact ih3 _ _ _ _ _ _ _ _ _ _ _ _ _ _ _ _ _ _ _ _ _ _ _ _ _ _ _ _ _ _ _ _ _ _ _ _ _ _ _ _ _ _ _ _ _ _ _ _ _ _ _ _ _ _ _ _ _ _ _ _ _ _ _ _ _ _ _ _ _ _ _ _ _ _ _ _ _ _ _ _)
      | (with_reducible exact csrno_counter.mono _ _ _ _ _ _ _ _ _ _ _ _ _ _ _ _ _ _ _ _ _ _ _ _ _ _ _ _ _ _ _ _ _ _ _ _ _ _ _ _ _ _ _ _ _ _ _ _ _ _ _ _ _ _ _ _ _ _ _ _ _ _ _ _ _ _ _ _ _ _ _ _ _ _ _ _ _ _ _)
      | (with_reducible exact LeO.refl _)
      | (with_reducible exact LeO.none _)
      | (with_reducible refine LeO.ite ?_ ?_)
      | (with_reducible refine LeO.bind ?_ (fun _ => ?_))
      | exact ih0 _ _ _ _ _ _ _ _ _ _ _ _ _ _ _ _ _ _ _ _ _ _ _ _ _ _ _ _ _ _ _ _ _ _ _ _ _ _ _ _ _ _ _ _ _ _ _ _ _ _ _ _ _ _ _ _ _ _ _ _ _ _ _ _ _ _ _ _ _ _ _ _ _ _ _ _ _ _ _
      | exact ih1 _ _ _ _ _ _ _ _ _ _ _ _ _ _ _ _ _ _ _ _ _ _ _ _ _ _ _ _ _ _ _ _ _ _ _ _ _ _ _ _ _ _ _ _ _ _ _ _ _ _ _ _ _ _ _ _ _ _ _ _ _ _ _ _ _ _ _ _ _ _ _ _ _ _ _ _ _ _ _
      | exact ih2 _ _ _ _ _ _ _ _ _ _ _ _ _ _ _ _ _ _ _ _ _ _ _ _ _ _ _ _ _ _ _ _ _ _ _ _ _ _ _ _ _ _ _ _ _ _ _ _ _ _ _ _ _ _ _ _ _ _ _ _ _ _ _ _ _ _ _ _ _ _ _ _ _ _ _ _ _ _ _ _
      | exact ih3 _ _ _ _ _ _ _ _ _ _ _ _ _ _ _ _ _ _ _ _ _ _ _ _ _ _ _ _ _ _ _ _ _ _ _ _ _ _ _ _ _ _ _ _ _ _ _ _ _ _ _ _ _ _ _ _ _ _ _ _ _ _ _ _ _ _ _ _ _ _ _ _ _ _ _ _ _ _ _ _
      | exact csrno_counter.mono _ _ _ _ _ _ _ _ _ _ _ _ _ _ _ _ _ _ _ _ _ _ _ _ _ _ _ _ _ _ _ _ _ _ _ _ _ _ _ _ _ _ _ _ _ _ _ _ _ _ _ _ _ _ _ _ _ _ _ _ _ _ _ _ _ _ _ _ _ _ _ _ _ _ _ _ _ _ _
      | exact LeO.none _
      | refine LeO.ite ?_ ?_
      | refine LeO.bind ?_ (fun _ => ?_)
    · intro y0 y1 y2 y3 y4 y5 y6 y7 y8 y9 y10 y11 y12 y13 y14 y15 y16 y17 y18 y19 y20 y21 y22 y23 y24 y25 y26 y27 y28 y29 y30 y31 y32 y33 y34 y35 y36 y37 y38 y39 y40 y41 y42 y43 y44 y45 y46 y47 y48 y49 y50 y51 y52 y53 y54 y55 y56 y57 y58 y59 y60 y61 y62 y63 y64 y65 y66 y67 y68 y69 y70 y71 y72 y73 y74 y75 y76 y77 y78
      unfold csrno_Check.j1
      repeat' first
      | (with_reducible exact ih0 _ _ _ _ _ _ _ _ _ _ _ _ _ _ _ _ _ _ _ _ _ _ _ _ _ _ _ _ _ _ _ _ _ _ _ _ _ _ _ _ _ _ _ _ _ _ _ _ _ _ _ _ _ _ _ _ _ _ _ _ _ _ _ _ _ _ _ _ _ _ _ _ _ _ _ _ _ _ _)
      | (with_reducible exact ih1 _ _ _ _ _ _ _ _ _ _ _ _ _ _ _ _ _ _ _ _ _ _ _ _ _ _ _ _ _ _ _ _ _ _ _ _ _ _ _ _ _ _ _ _ _ _ _ _ _ _ _ _ _ _ _ _ _ _ _ _ _ _ _ _ _ _ _ _ _ _ _ _ _ _ _ _ _ _ _)
      | (with_reducible exact ih2 _ _ _ _ _ _ _ _ _ _ _ _ _ _ _ _ _ _ _ _ _ _ _ _ _ _ _ _ _ _ _ _ _ _ _ _ _ _ _ _ _ _ _ _ _ _ _ _ _ _ _ _ _ _ _ _ _ _ _ _ _ _ _ _ _ _ _ _ _ _ _ _ _ _ _ _ _ _ _ _)
      | (with_reducible exact ih3 _ _ _ _ _ _ _ _ _ _ _ _ _ _ _ _ _ _ _ _ _ _ _ _ _ _ _ _ _ _ _ _ _ _ _ _ _ _ _ _ _ _ _ _ _ _ _ _ _ _ _ _ _ _ _ _ _ _ _ _ _ _ _ _ _ _ _ _ _ _ _ _ _ _ _ _ _ _ _ _)
      | (with_reducible exact csrno_counter.mono _ _ _ _ _ _ _ _ _ _ _ _ _ _ _ _ _ _ _ _ _ _ _ _ _ _ _ _ _ _ _ _ _ _ _ _ _ _ _ _ _ _ _ _ _ _ _ _ _ _ _ _ _ _ _ _ _ _ _ _ _ _ _ _ _ _ _ _ _ _ _ _ _ _ _ _ _ _ _)
      | (with_reducible exact LeO.refl _)
      | (with_reducible exact LeO.none _)
      | (with_reducible refine LeO.ite ?_ ?_)
      | (with_reducible refine LeO.bind ?_ (fun _ => ?_))
      | exact ih0 _ _ _ _ _ _ _ _ _ _ _ _ _ _ _ _ _ _ _ _ _ _ _ _ _ _ _ _ _ _ _ _ _ _ _ _ _ _ _ _ _ _ _ _ _ _ _ _ _ _ _ _ _ _ _ _ _ _ _ _ _ _ _ _ _ _ _ _ _ _ _ _ _ _ _ _ _ _ _
      | exact ih1 _ _ _ _ _ _ _ _ _ _ _ _ _ _ _ _ _ _ _ _ _ _ _ _ _ _ _ _ _ _ _ _ _ _ _ _ _ _ _ _ _ _ _ _ _ _ _ _ _ _ _ _ _ _ _ _ _ _ _ _ _ _ _ _ _ _ _ _ _ _ _ _ _ _ _ _ _ _ _
      | exact ih2 _ _ _ _ _ _ _ _ _ _ _ _ _ _ _ _ _ _ _ _ _ _ _ _ _ _ _ _ _ _ _ _ _ _ _ _ _ _ _ _ _ _ _ _ _ _ _ _ _ _ _ _ _ _ _ _ _ _ _ _ _ _ _ _ _ _ _ _ _ _ _ _ _ _ _ _ _ _ _ _
      | exact ih3 _ _ _ _ _ _ _ _ _ _ _ _ _ _ _ _ _ _ _ _ _ _ _ _ _ _ _ _ _ _ _ _ _ _ _ _ _ _ _ _ _ _ _ _ _ _ _ _ _ _ _ _ _ _ _ _ _ _ _ _ _ _ _ _ _ _ _ _ _ _ _ _ _ _ _ _ _ _ _ _
      | exact csrno_counter.mono _ _ _ _ _ _ _ _ _ _ _ _ _ _ _ _ _ _ _ _ _ _ _ _ _ _ _ _ _ _ _ _ _ _ _ _ _ _ _ _ _ _ _ _ _ _ _ _ _ _ _ _ _ _ _ _ _ _ _ _ _ _ _ _ _ _ _ _ _ _ _ _ _ _ _ _ _ _ _
      | exact LeO.none _
      | refine LeO.ite ?_ ?_
      | refine LeO.bind ?_ (fun _ => ?_)
    · intro y0 y1 y2 y3 y4 y5 y6 y7 y8 y9 y10 y11 y12 y13 y14 y15 y16 y17 y18 y19 y20 y21 y22 y23 y24 y25 y26 y27 y28 y29 y30 y31 y32 y33 y34 y35 y36 y37 y38 y39 y40 y41 y42 y43 y44 y45 y46 y47 y48 y49 y50 y51 y52 y53 y54 y55 y56 y57 y58 y59 y60 y61 y62 y63 y64 y65 y66 y67 y68 y69 y70 y71 y72 y73 y74 y75 y76 y77 y78 y79
      unfold csrno_Check.j2
      repeat' first
      | (with_reducible exact ih0 _ _ _ _ _ _ _ _ _ _ _ _ _ _ _ _ _ _ _ _ _ _ _ _ _ _ _ _ _ _ _ _ _ _ _ _ _ _ _ _ _ _ _ _ _ _ _ _ _ _ _ _ _ _ _ _ _ _ _ _ _ _ _ _ _ _ _ _ _ _ _ _ _ _ _ _ _ _ _)
      | (with_reducible exact ih1 _ _ _ _ _ _ _ _ _ _ _ _ _ _ _ _ _ _ _ _ _ _ _ _ _ _ _ _ _ _ _ _ _ _ _ _ _ _ _ _ _ _ _ _ _ _ _ _ _ _ _ _ _ _ _ _ _ _ _ _ _ _ _ _ _ _ _ _ _ _ _ _ _ _ _ _ _ _ _)
      | (with_reducible exact ih2 _ _ _ _ _ _ _ _ _ _ _ _ _ _ _ _ _ _ _ _ _ _ _ _ _ _ _ _ _ _ _ _ _ _ _ _ _ _ _ _ _ _ _ _ _ _ _ _ _ _ _ _ _ _ _ _ _ _ _ _ _ _ _ _ _ _ _ _ _ _ _ _ _ _ _ _ _ _ _ _)
      | (with_reducible exact ih3 _ _ _ _ _ _ _ _ _ _ _ _ _ _ _ _ _ _ _ _ _ _ _ _ _ _ _ _ _ _ _ _ _ _ _ _ _ _ _ _ _ _ _ _ _ _ _ _ _ _ _ _ _ _ _ _ _ _ _ _ _ _ _ _ _ _ _ _ _ _ _ _ _ _ _ _ _ _ _ _)
      | (with_reducible exact csrno_counter.mono _ _ _ _ _ _ _ _ _ _ _ _ _ _ _ _ _ _ _ _ _ _ _ _ _ _ _ _ _ _ _ _ _ _ _ _ _ _ _ _ _ _ _ _ _ _ _ _ _ _ _ _ _ _ _ _ _ _ _ _ _ _ _ _ _ _ _ _ _ _ _ _ _ _ _ _ _ _ _)
      | (with_reducible exact LeO.refl _)
      | (with_reducible exact LeO.none _)
      | (with_reducible refine LeO.ite ?_ ?_)
      | (with_reducible refine LeO.bind ?_ (fun _ => ?_))
      | exact ih0 _ _ _ _ _ _ _ _ _ _ _ _ _ _ _ _ _ _ _ _ _ _ _ _ _ _ _ _ _ _ _ _ _ _ _ _ _ _ _ _ _ _ _ _ _ _ _ _ _ _ _ _ _ _ _ _ _ _ _ _ _ _ _ _ _ _ _ _ _ _ _ _ _ _ _ _ _ _ _
      | exact ih1 _ _ _ _ _ _ _ _ _ _ _ _ _ _ _ _ _ _ _ _ _ _ _ _ _ _ _ _ _ _ _ _ _ _ _ _ _ _ _ _ _ _ _ _ _ _ _ _ _ _ _ _ _ _ _ _ _ _ _ _ _ _ _ _ _ _ _ _ _ _ _ _ _ _ _ _ _ _ _
      | exact ih2 _ _ _ _ _ _ _ _ _ _ _ _ _ _ _ _ _ _ _ _ _ _ _ _ _ _ _ _ _ _ _ _ _ _ _ _ _ _ _ _ _ _ _ _ _ _ _ _ _ _ _ _ _ _ _ _ _ _ _ _ _ _ _ _ _ _ _ _ _ _ _ _ _ _ _ _ _ _ _ _
      | exact ih3 _ _ _ _ _ _ _ _ _ _ _ _ _ _ _ _ _ _ _ _ _ _ _ _ _ _ _ _ _ _ _ _ _ _ _ _ _ _ _ _ _ _ _ _ _ _ _ _ _ _ _ _ _ _ _ _ _ _ _ _ _ _ _ _ _ _ _ _ _ _ _ _ _ _ _ _ _ _ _ _
      | exact csrno_counter.mono _ _ _ _ _ _ _ _ _ _ _ _ _ _ _ _ _ _ _ _ _ _ _ _ _ _ _ _ _ _ _ _ _ _ _ _ _ _ _ _ _ _ _ _ _ _ _ _ _ _ _ _ _ _ _ _ _ _ _ _ _ _ _ _ _ _ _ _ _ _ _ _ _ _ _ _ _ _ _
      | exact LeO.none _
      | refine LeO.ite ?_ ?_
      | refine LeO.bind ?_ (fun _ => ?_)
    · intro y0 y1 y2 y3 y4 y5 y6 y7 y8 y9 y10 y11 y12 y13 y14 y15 y16 y17 y18 y19 y20 y21 y22 y23 y24 y25 y26 y27 y28 y29 y30 y31 y32 y33 y34 y35 y36 y37 y38 y39 y40 y41 y42 y43 y44 y45 y46 y47 y48 y49 y50 y51 y52 y53 y54 y55 y56 y57 y58 y59 y60 y61 y62 y63 y64 y65 y66 y67 y68 y69 y70 y71 y72 y73 y74 y75 y76 y77 y78 y79
      unfold csrno_Check.j3
      repeat' first
      | (with_reducible exact ih0 _ _ _ _ _ _ _ _ _ _ _ _ _ _ _ _ _ _ _ _ _ _ _ _ _ _ _ _ _ _ _ _ _ _ _ _ _ _ _ _ _ _ _ _ _ _ _ _ _ _ _ _ _ _ _ _ _ _ _ _ _ _ _ _ _ _ _ _ _ _ _ _ _ _ _ _ _ _ _)
      | (with_reducible exact ih1 _ _ _ _ _ _ _ _ _ _ _ _ _ _ _ _ _ _ _ _ _ _ _ _ _ _ _ _ _ _ _ _ _ _ _ _ _ _ _ _ _ _ _ _ _ _ _ _ _ _ _ _ _ _ _ _ _ _ _ _ _ _ _ _ _ _ _ _ _ _ _ _ _ _ _ _ _ _ _)
      | (with_reducible exact ih2 _ _ _ _ _ _ _ _ _ _ _ _ _ _ _ _ _ _ _ _ _ _ _ _ _ _ _ _ _ _ _ _ _ _ _ _ _ _ _ _ _ _ _ _ _ _ _ _ _ _ _ _ _ _ _ _ _ _ _ _ _ _ _ _ _ _ _ _ _ _ _ _ _ _ _ _ _ _ _ _)
      | (with_reducible exact ih3 _ _ _ _ _ _ _ _ _ _ _ _ _ _ _ _ _ _ _ _ _ _ _ _ _ _ _ _ _ _ _ _ _ _ _ _ _ _ _ _ _ _ _ _ _ _ _ _ _ _ _ _ _ _ _ _ _ _ _ _ _ _ _ _ _ _ _ _ _ _ _ _ _ _ _ _ _ _ _ _)
      | (with_reducible exact csrno_counter.mono _ _ _ _ _ _ _ _ _ _ _ _ _ _ _ _ _ _ _ _ _ _ _ _ _ _ _ _ _ _ _ _ _ _ _ _ _ _ _ _ _ _ _ _ _ _ _ _ _ _ _ _ _ _ _ _ _ _ _ _ _ _ _ _ _ _ _ _ _ _ _ _ _ _ _ _ _ _ _)
      | (with_reducible exact LeO.refl _)
      | (with_reducible exact LeO.none _)
      | (with_reducible refine LeO.ite ?_ ?_)
      | (with_reducible refine LeO.bind ?_ (fun _ => ?_))
      | exact ih0 _ _ _ _ _ _ _ _ _ _ _ _ _ _ _ _ _ _ _ _ _ _ _ _ _ _ _ _ _ _ _ _ _ _ _ _ _ _ _ _ _ _ _ _ _ _ _ _ _ _ _ _ _ _ _ _ _ _ _ _ _ _ _ _ _ _ _ _ _ _ _ _ _ _ _ _ _ _ _
      | exact ih1 _ _ _ _ _ _ _ _ _ _ _ _ _ _ _ _ _ _ _ _ _ _ _ _ _ _ _ _ _ _ _ _ _ _ _ _ _ _ _ _ _ _ _ _ _ _ _ _ _ _ _ _ _ _ _ _ _ _ _ _ _ _ _ _ _ _ _ _ _ _ _ _ _ _ _ _ _ _ _
      | exact ih2 _ _ _ _ _ _ _ _ _ _ _ _ _ _ _ _ _ _ _ _ _ _ _ _ _ _ _ _ _ _ _ _ _ _ _ _ _ _ _ _ _ _ _ _ _ _ _ _ _ _ _ _ _ _ _ _ _ _ _ _ _ _ _ _ _ _ _ _ _ _ _ _ _ _ _ _ _ _ _ _
      | exact ih3 _ _ _ _ _ _ _ _ _ _ _ _ _ _ _ _ _ _ _ _ _ _ _ _ _ _ _ _ _ _ _ _ _ _ _ _ _ _ _ _ _ _ _ _ _ _ _ _ _ _ _ _ _ _ _ _ _ _ _ _ _ _ _ _ _ _ _ _ _ _ _ _ _ _ _ _ _ _ _ _
      | exact csrno_counter.mono _ _ _ _ _ _ _ _ _ _ _ _ _ _ _ _ _ _ _ _ _ _ _ _ _ _ _ _ _ _ _ _ _ _ _ _ _ _ _ _ _ _ _ _ _ _ _ _ _ _ _ _ _ _ _ _ _ _ _ _ _ _ _ _ _ _ _ _ _ _ _ _ _ _ _ _ _ _ _
      | exact LeO.none _
      | refine LeO.ite ?_ ?_
      | refine LeO.bind ?_ (fun _ => ?_)
theorem csrno_Check.mono : ∀ a0 a1 a2 a3 a4 a5 a6 a7 a8 a9 a10 a11 a12 a13 a14 a15 a16 a17 a18 a19 a20 a21 a22 a23 a24 a25 a26 a27 a28 a29 a30 a31 a32 a33 a34 a35 a36 a37 a38 a39 a40 a41 a42 a43 a44 a45 a46 a47 a48 a49 a50 a51 a52 a53 a54 a55 a56 a57 a58 a59 a60 a61 a62 a63 a64 a65 a66 a67 a68 a69 a70 a71 a72 a73 a74 a75 a76 a77 a78 k, LeO (csrno_Check.f k a0 a1 a2 a3 a4 a5 a6 a7 a8 a9 a10 a11 a12 a13 a14 a15 a16 a17 a18 a19 a20 a21 a22 a23 a24 a25 a26 a27 a28 a29 a30 a31 a32 a33 a34 a35 a36 a37 a38 a39 a40 a41 a42 a43 a44 a45 a46 a47 a48 a49 a50 a51 a52 a53 a54 a55 a56 a57 a58 a59 a60 a61 a62 a63 a64 a65 a66 a67 a68 a69 a70 a71 a72 a73 a74 a75 a76 a77 a78) (csrno_Check.f (k + 1) a0 a1 a2 a3 a4 a5 a6 a7 a8 a9 a10 a11 a12 a13 a14 a15 a16 a17 a18 a19 a20 a21 a22 a23 a24 a25 a26 a27 a28 a29 a30 a31 a32 a33 a34 a35 a36 a37 a38 a39 a40 a41 a42 a43 a44 a45 a46 a47 a48 a49 a50 a51 a52 a53 a54 a55 a56 a57 a58 a59 a60 a61 a62 a63 a64 a65 a66 a67 a68 a69 a70 a71 a72 a73 a74 a75 a76 a77 a78) := by
  intro a0 a1 a2 a3 a4 a5 a6 a7 a8 a9 a10 a11 a12 a13 a14 a15 a16 a17 a18 a19 a20 a21 a22 a23 a24 a25 a26 a27 a28 a29 a30 a31 a32 a33 a34 a35 a36 a37 a38 a39 a40 a41 a42 a43 a44 a45 a46 a47 a48 a49 a50 a51 a52 a53 a54 a55 a56 a57 a58 a59 a60 a61 a62 a63 a64 a65 a66 a67 a68 a69 a70 a71 a72 a73 a74 a75 a76 a77 a78 k
  obtain ⟨ih0, ih1, ih2, ih3⟩ := csrno_Check.mono_l k
  unfold csrno_Check.f
  repeat' first
      | (with_reducible exact ih0 _ _ _ _ _ _ _ _ _ _ _ _ _ _ _ _ _ _ _ _ _ _ _ _ _ _ _ _ _ _ _ _ _ _ _ _ _ _ _ _ _ _ _ _ _ _ _ _ _ _ _ _ _ _ _ _ _ _ _ _ _ _ _ _ _ _ _ _ _ _ _ _ _ _ _ _ _ _ _)
      | (with_reducible exact ih1 _ _ _ _ _ _ _ _ _ _ _ _ _ _ _ _ _ _ _ _ _ _ _ _ _ _ _ _ _ _ _ _ _ _ _ _ _ _ _ _ _ _ _ _ _ _ _ _ _ _ _ _ _ _ _ _ _ _ _ _ _ _ _ _ _ _ _ _ _ _ _ _ _ _ _ _ _ _ _)
      | (with_reducible exact ih2 _ _ _ _ _ _ _ _ _ _ _ _ _ _ _ _ _ _ _ _ _ _ _ _ _ _ _ _ _ _ _ _ _ _ _ _ _ _ _ _ _ _ _ _ _ _ _ _ _ _ _ _ _ _ _ _ _ _ _ _ _ _ _ _ _ _ _ _ _ _ _ _ _ _ _ _ _ _ _ _)
      | (with_reducible exact ih3 _ _ _ _ _ _ _ _ _ _ _ _ _ _ _ _ _ _ _ _ _ _ _ _ _ _ _ _ _ _ _ _ _ _ _ _ _ _ _ _ _ _ _ _ _ _ _ _ _ _ _ _ _ _ _ _ _ _ _ _ _ _ _ _ _ _ _ _ _ _ _ _ _ _ _ _ _ _ _ _)
      | (with_reducible exact csrno_counter.mono _ _ _ _ _ _ _ _ _ _ _ _ _ _ _ _ _ _ _ _ _ _ _ _ _ _ _ _ _ _ _ _ _ _ _ _ _ _ _ _ _ _ _ _ _ _ _ _ _ _ _ _ _ _ _ _ _ _ _ _ _ _ _ _ _ _ _ _ _ _ _ _ _ _ _ _ _ _ _)
      | (with_reducible exact LeO.refl _)
      | (with_reducible exact LeO.none _)
      | (with_reducible refine LeO.ite ?_ ?_)
      | (with_reducible refine LeO.bind ?_ (fun _ => ?_))
      | exact ih0 _ _ _ _ _ _ _ _ _ _ _ _ _ _ _ _ _ _ _ _ _ _ _ _ _ _ _ _ _ _ _ _ _ _ _ _ _ _ _ _ _ _ _ _ _ _ _ _ _ _ _ _ _ _ _ _ _ _ _ _ _ _ _ _ _ _ _ _ _ _ _ _ _ _ _ _ _ _ _
      | exact ih1 _ _ _ _ _ _ _ _ _ _ _ _ _ _ _ _ _ _ _ _ _ _ _ _ _ _ _ _ _ _ _ _ _ _ _ _ _ _ _ _ _ _ _ _ _ _ _ _ _ _ _ _ _ _ _ _ _ _ _ _ _ _ _ _ _ _ _ _ _ _ _ _ _ _ _ _ _ _ _
      | exact ih2 _ _ _ _ _ _ _ _ _ _ _ _ _ _ _ _ _ _ _ _ _ _ _ _ _ _ _ _ _ _ _ _ _ _ _ _ _ _ _ _ _ _ _ _ _ _ _ _ _ _ _ _ _ _ _ _ _ _ _ _ _ _ _ _ _ _ _ _ _ _ _ _ _ _ _ _ _ _ _ _
      | exact ih3 _ _ _ _ _ _ _ _ _ _ _ _ _ _ _ _ _ _ _ _ _ _ _ _ _ _ _ _ _ _ _ _ _ _ _ _ _ _ _ _ _ _ _ _ _ _ _ _ _ _ _ _ _ _ _ _ _ _ _ _ _ _ _ _ _ _ _ _ _ _ _ _ _ _ _ _ _ _ _ _
      | exact csrno_counter.mono _ _ _ _ _ _ _ _ _ _ _ _ _ _ _ _ _ _ _ _ _ _ _ _ _ _ _ _ _ _ _ _ _ _ _ _ _ _ _ _ _ _ _ _ _ _ _ _ _ _ _ _ _ _ _ _ _ _ _ _ _ _ _ _ _ _ _ _ _ _ _ _ _ _ _ _ _ _ _
      | exact LeO.none _
      | refine LeO.ite ?_ ?_
      | refine LeO.bind ?_ (fun _ => ?_)
set_option maxHeartbeats 8000000 in
set_option maxRecDepth 100000 in
theorem csrno_Check.calls (k : Nat) (a0_0 : Int) (a0_1 : Int) (a0_2 : Int) (a0_3 : Int) (a0_4 : Int) (a0_5 : Int) (a0_6 : Int) (a0_7 : Int) (a0_8 : Int) (a0_9 : Int) (a0_10 : Int) (a0_11 : Int) (a0_12 : Int) (a0_13 : Int) (a0_14 : Int) (a0_15 : Int) (a0_16 : Int) (a0_17 : Int) (a0_18 : Int) (a0_19 : Int) (a0_20 : Int) (a0_21 : Int) (a0_22 : Int) (a0_23 : Int) (a0_24 : Int) (a0_25 : Int) (a0_26 : Int) (a0_27 : Int) (a0_28 : Int) (a0_29 : Int) (a0_30 : Int) (a0_31 : Int) (a0_32 : Int) (a0_33 : Int) (a0_34 : Bool) (a0_35 : Bool) (a0_36 : Bool) (a0_37 : Int) (a0_38 : Int) (a0_39 : Int) (a0_40 : Int) (a0_41 : Int) (a0_42 : Int) (a0_43 : Int) (a0_44 : Int) (a0_45 : Int) (a0_46 : Int) (a0_47 : Int) (a0_48 : Int) (a0_49 : Int) (a0_50 : Int) (a0_51 : Int) (a0_52 : Int) (a0_53 : Int) (a0_54 : Int) (a0_55 : Int) (a0_56 : Int) (a0_57 : Int) (a0_58 : Int) (a0_59 : Int) (a0_60 : Int) (a0_61 : Int) (a0_62 : Int) (a0_63 : Int) (a0_64 : Int) (a0_65 : Int) (a0_66 : Int) (a0_67 : Int) (a0_68 : Int) (a0_69 : Int) (a0_70 : Int) (a0_71 : Int) (a0_72 : Int) (a0_73 : Int) (a0_74 : Int) (a0_75 : Int) (a0_76 : Int) (a1 : Int) (a2 : Bool) (r : Int) (w : World) (h : csrno_Check.f k a0_0 a0_1 a0_2 a0_3 a0_4 a0_5 a0_6 a0_7 a0_8 a0_9 a0_10 a0_11 a0_12 a0_13 a0_14 a0_15 a0_16 a0_17 a0_18 a0_19 a0_20 a0_21 a0_22 a0_23 a0_24 a0_25 a0_26 a0_27 a0_28 a0_29 a0_30 a0_31 a0_32 a0_33 a0_34 a0_35 a0_36 a0_37 a0_38 a0_39 a0_40 a0_41 a0_42 a0_43 a0_44 a0_45 a0_46 a0_47 a0_48 a0_49 a0_50 a0_51 a0_52 a0_53 a0_54 a0_55 a0_56 a0_57 a0_58 a0_59 a0_60 a0_61 a0_62 a0_63 a0_64 a0_65 a0_66 a0_67 a0_68 a0_69 a0_70 a0_71 a0_72 a0_73 a0_74 a0_75 a0_76 a1 a2 = some r) (hT : Tab w) :
    Calls Tryd.prog 15 #[.agg #[.int .u64 a0_0, .int .u64 a0_1, .int .u64 a0_2, .int .u64 a0_3, .int .u64 a0_4, .int .u64 a0_5, .int .u64 a0_6, .int .u64 a0_7, .int .u64 a0_8, .int .u64 a0_9, .int .u64 a0_10, .int .u64 a0_11, .int .u64 a0_12, .int .u64 a0_13, .int .u64 a0_14, .int .u64 a0_15, .int .u64 a0_16, .int .u64 a0_17, .int .u64 a0_18, .int .u64 a0_19, .int .u64 a0_20, .int .u64 a0_21, .int .u64 a0_22, .int .u64 a0_23, .int .u64 a0_24, .int .u64 a0_25, .int .u64 a0_26, .int .u64 a0_27, .int .u64 a0_28, .int .u64 a0_29, .int .u64 a0_30, .int .u64 a0_31, .int .u64 a0_32, .int .u8 a0_33, .bool a0_34, .bool a0_35, .bool a0_36, .int .u64 a0_37, .int .u64 a0_38, .int .u64 a0_39, .int .u64 a0_40, .int .u64 a0_41, .int .u64 a0_42, .int .u64 a0_43, .int .u64 a0_44, .int .u64 a0_45, .int .u64 a0_46, .int .u64 a0_47, .int .u64 a0_48, .int .u64 a0_49, .int .u64 a0_50, .int .u64 a0_51, .int .u64 a0_52, .int .u64 a0_53, .int .u64 a0_54, .int .u64 a0_55, .int .u64 a0_56, .int .u64 a0_57, .int .u64 a0_58, .int .u64 a0_59, .int .u64 a0_60, .int .u64 a0_61, .int .u64 a0_62, .int .u64 a0_63, .int .u64 a0_64, .int .u64 a0_65, .int .u64 a0_66, .int .u64 a0_67, .int .u64 a0_68, .int .u64 a0_69, .int .u64 a0_70, .int .u64 a0_71, .int .u64 a0_72, .int .u64 a0_73, .int .u64 a0_74, .int .u64 a0_75, .int .u64 a0_76], .int .i64 a1, .bool a2] w fun e w' => e = .returned (.int .i64 r) ∧ Below w.heap.size w w' := by
  have hu30 := Tryd.underlying30
  have HB := Aside0.mk (Below.refl w.heap.size w)
  have H : ((csrno_Known.f a1).bind fun t104 => (if t104 = true then (if a2 = true then (csrno_Check.j0 k a1 ((a1 / 1024) == 3) a0_0 a0_1 a0_2 a0_3 a0_4 a0_5 a0_6 a0_7 a0_8 a0_9 a0_10 a0_11 a0_12 a0_13 a0_14 a0_15 a0_16 a0_17 a0_18 a0_19 a0_20 a0_21 a0_22 a0_23 a0_24 a0_25 a0_26 a0_27 a0_28 a0_29 a0_30 a0_31 a0_32 a0_33 a0_34 a0_35 a0_36 a0_37 a0_38 a0_39 a0_40 a0_41 a0_42 a0_43 a0_44 a0_45 a0_46 a0_47 a0_48 a0_49 a0_50 a0_51 a0_52 a0_53 a0_54 a0_55 a0_56 a0_57 a0_58 a0_59 a0_60 a0_61 a0_62 a0_63 a0_64 a0_65 a0_66 a0_67 a0_68 a0_69 a0_70 a0_71 a0_72 a0_73 a0_74 a0_75 a0_76) else (csrno_Check.j0 k a1 false a0_0 a0_1 a0_2 a0_3 a0_4 a0_5 a0_6 a0_7 a0_8 a0_9 a0_10 a0_11 a0_12 a0_13 a0_14 a0_15 a0_16 a0_17 a0_18 a0_19 a0_20 a0_21 a0_22 a0_23 a0_24 a0_25 a0_26 a0_27 a0_28 a0_29 a0_30 a0_31 a0_32 a0_33 a0_34 a0_35 a0_36 a0_37 a0_38 a0_39 a0_40 a0_41 a0_42 a0_43 a0_44 a0_45 a0_46 a0_47 a0_48 a0_49 a0_50 a0_51 a0_52 a0_53 a0_54 a0_55 a0_56 a0_57 a0_58 a0_59 a0_60 a0_61 a0_62 a0_63 a0_64 a0_65 a0_66 a0_67 a0_68 a0_69 a0_70 a0_71 a0_72 a0_73 a0_74 a0_75 a0_76)) else (csrno_Check.j0 k a1 true a0_0 a0_1 a0_2 a0_3 a0_4 a0_5 a0_6 a0_7 a0_8 a0_9 a0_10 a0_11 a0_12 a0_13 a0_14 a0_15 a0_16 a0_17 a0_18 a0_19 a0_20 a0_21 a0_22 a0_23 a0_24 a0_25 a0_26 a0_27 a0_28 a0_29 a0_30 a0_31 a0_32 a0_33 a0_34 a0_35 a0_36 a0_37 a0_38 a0_39 a0_40 a0_41 a0_42 a0_43 a0_44 a0_45 a0_46 a0_47 a0_48 a0_49 a0_50 a0_51 a0_52 a0_53 a0_54 a0_55 a0_56 a0_57 a0_58 a0_59 a0_60 a0_61 a0_62 a0_63 a0_64 a0_65 a0_66 a0_67 a0_68 a0_69 a0_70 a0_71 a0_72 a0_73 a0_74 a0_75 a0_76))) = some r := h
  clear h
  have HC4 := Aside0.mk H
  clear H
  go_enter Tryd.func15, Tryd.ntmps15
  go_upto_region 1 with (first | ((with_reducible refine gate_dst (N := 3) rfl ?_); refine box_event ?hg (N := 3) ?hd (cs := #[.int .u64 a0_0, .int .u64 a0_1, .int .u64 a0_2, .int .u64 a0_3, .int .u64 a0_4, .int .u64 a0_5, .int .u64 a0_6, .int .u64 a0_7, .int .u64 a0_8, .int .u64 a0_9, .int .u64 a0_10, .int .u64 a0_11, .int .u64 a0_12, .int .u64 a0_13, .int .u64 a0_14, .int .u64 a0_15, .int .u64 a0_16, .int .u64 a0_17, .int .u64 a0_18, .int .u64 a0_19, .int .u64 a0_20, .int .u64 a0_21, .int .u64 a0_22, .int .u64 a0_23, .int .u64 a0_24, .int .u64 a0_25, .int .u64 a0_26, .int .u64 a0_27, .int .u64 a0_28, .int .u64 a0_29, .int .u64 a0_30, .int .u64 a0_31, .int .u64 a0_32, .int .u8 a0_33, .bool a0_34, .bool a0_35, .bool a0_36, .int .u64 a0_37, .int .u64 a0_38, .int .u64 a0_39, .int .u64 a0_40, .int .u64 a0_41, .int .u64 a0_42, .int .u64 a0_43, .int .u64 a0_44, .int .u64 a0_45, .int .u64 a0_46, .int .u64 a0_47, .int .u64 a0_48, .int .u64 a0_49, .int .u64 a0_50, .int .u64 a0_51, .int .u64 a0_52, .int .u64 a0_53, .int .u64 a0_54, .int .u64 a0_55, .int .u64 a0_56, .int .u64 a0_57, .int .u64 a0_58, .int .u64 a0_59, .int .u64 a0_60, .int .u64 a0_61, .int .u64 a0_62, .int .u64 a0_63, .int .u64 a0_64, .int .u64 a0_65, .int .u64 a0_66, .int .u64 a0_67, .int .u64 a0_68, .int .u64 a0_69, .int .u64 a0_70, .int .u64 a0_71, .int .u64 a0_72, .int .u64 a0_73, .int .u64 a0_74, .int .u64 a0_75, .int .u64 a0_76]) (t := 30) ?hr ?_; (case hd => rfl); (case hg => rfl); (case hr => first | (go_simp; done) | (go_simp; rfl)); intro gb103 hg w5 hbox hb; have n0_ := Aside0.mk (below_step (by repeat (first | (with_reducible first | exact HB.out | apply below_alloc | apply pw_below_drewN | apply below_drew1) | exact HB.out)) hb); have n1_ := Aside0.mk (hbox); have n2_ := Aside0.mk ((by rw [hg]; exact (below_size (by repeat (first | (with_reducible first | exact HB.out | apply below_alloc | apply pw_below_drewN | apply below_drew1) | exact HB.out))) : w.heap.size ≤ gb103)); have n3_ := Aside0.mk ((by rw [hg]; exact (below_size (by repeat (first | (with_reducible first | exact HB.out | apply below_alloc | apply pw_below_drewN | apply below_drew1) | exact HB.out))) : w.heap.size ≤ gb103)); clear HB; have HB := n0_; have BK103 := n1_; have GW103 := n2_; have GE103 := n3_; clear n0_ n1_ n2_ n3_; clear hb hbox hg))
  (try simp only [Act.put, List.setIfInBounds_toArray, List.set_cons_zero, List.set_cons_succ])
  go_cut [18] (fun v18 wc => ∃ (kq : Nat) (x18_3 : Bool), v18 = .bool x18_3 ∧ Aside0 (csrno_Check.j0 kq a1 x18_3 a0_0 a0_1 a0_2 a0_3 a0_4 a0_5 a0_6 a0_7 a0_8 a0_9 a0_10 a0_11 a0_12 a0_13 a0_14 a0_15 a0_16 a0_17 a0_18 a0_19 a0_20 a0_21 a0_22 a0_23 a0_24 a0_25 a0_26 a0_27 a0_28 a0_29 a0_30 a0_31 a0_32 a0_33 a0_34 a0_35 a0_36 a0_37 a0_38 a0_39 a0_40 a0_41 a0_42 a0_43 a0_44 a0_45 a0_46 a0_47 a0_48 a0_49 a0_50 a0_51 a0_52 a0_53 a0_54 a0_55 a0_56 a0_57 a0_58 a0_59 a0_60 a0_61 a0_62 a0_63 a0_64 a0_65 a0_66 a0_67 a0_68 a0_69 a0_70 a0_71 a0_72 a0_73 a0_74 a0_75 a0_76 = some r) ∧ Aside0 (kq ≤ k) ∧ Aside0 (wc.heap[gb103]? = some (.cells #[.int .u64 a0_0, .int .u64 a0_1, .int .u64 a0_2, .int .u64 a0_3, .int .u64 a0_4, .int .u64 a0_5, .int .u64 a0_6, .int .u64 a0_7, .int .u64 a0_8, .int .u64 a0_9, .int .u64 a0_10, .int .u64 a0_11, .int .u64 a0_12, .int .u64 a0_13, .int .u64 a0_14, .int .u64 a0_15, .int .u64 a0_16, .int .u64 a0_17, .int .u64 a0_18, .int .u64 a0_19, .int .u64 a0_20, .int .u64 a0_21, .int .u64 a0_22, .int .u64 a0_23, .int .u64 a0_24, .int .u64 a0_25, .int .u64 a0_26, .int .u64 a0_27, .int .u64 a0_28, .int .u64 a0_29, .int .u64 a0_30, .int .u64 a0_31, .int .u64 a0_32, .int .u8 a0_33, .bool a0_34, .bool a0_35, .bool a0_36, .int .u64 a0_37, .int .u64 a0_38, .int .u64 a0_39, .int .u64 a0_40, .int .u64 a0_41, .int .u64 a0_42, .int .u64 a0_43, .int .u64 a0_44, .int .u64 a0_45, .int .u64 a0_46, .int .u64 a0_47, .int .u64 a0_48, .int .u64 a0_49, .int .u64 a0_50, .int .u64 a0_51, .int .u64 a0_52, .int .u64 a0_53, .int .u64 a0_54, .int .u64 a0_55, .int .u64 a0_56, .int .u64 a0_57, .int .u64 a0_58, .int .u64 a0_59, .int .u64 a0_60, .int .u64 a0_61, .int .u64 a0_62, .int .u64 a0_63, .int .u64 a0_64, .int .u64 a0_65, .int .u64 a0_66, .int .u64 a0_67, .int .u64 a0_68, .int .u64 a0_69, .int .u64 a0_70, .int .u64 a0_71, .int .u64 a0_72, .int .u64 a0_73, .int .u64 a0_74, .int .u64 a0_75, .int .u64 a0_76] 30 (0, 0))) ∧ Aside0 (Below w.heap.size w wc))
  case first =>
    have H := HC4.out
    clear HC4
    replace H := Option.bind_eq_some_iff.mp H
    obtain ⟨t104, A60, H⟩ := H
    replace H : (if t104 = true then (if a2 = true then (csrno_Check.j0 k a1 ((a1 / 1024) == 3) a0_0 a0_1 a0_2 a0_3 a0_4 a0_5 a0_6 a0_7 a0_8 a0_9 a0_10 a0_11 a0_12 a0_13 a0_14 a0_15 a0_16 a0_17 a0_18 a0_19 a0_20 a0_21 a0_22 a0_23 a0_24 a0_25 a0_26 a0_27 a0_28 a0_29 a0_30 a0_31 a0_32 a0_33 a0_34 a0_35 a0_36 a0_37 a0_38 a0_39 a0_40 a0_41 a0_42 a0_43 a0_44 a0_45 a0_46 a0_47 a0_48 a0_49 a0_50 a0_51 a0_52 a0_53 a0_54 a0_55 a0_56 a0_57 a0_58 a0_59 a0_60 a0_61 a0_62 a0_63 a0_64 a0_65 a0_66 a0_67 a0_68 a0_69 a0_70 a0_71 a0_72 a0_73 a0_74 a0_75 a0_76) else (csrno_Check.j0 k a1 false a0_0 a0_1 a0_2 a0_3 a0_4 a0_5 a0_6 a0_7 a0_8 a0_9 a0_10 a0_11 a0_12 a0_13 a0_14 a0_15 a0_16 a0_17 a0_18 a0_19 a0_20 a0_21 a0_22 a0_23 a0_24 a0_25 a0_26 a0_27 a0_28 a0_29 a0_30 a0_31 a0_32 a0_33 a0_34 a0_35 a0_36 a0_37 a0_38 a0_39 a0_40 a0_41 a0_42 a0_43 a0_44 a0_45 a0_46 a0_47 a0_48 a0_49 a0_50 a0_51 a0_52 a0_53 a0_54 a0_55 a0_56 a0_57 a0_58 a0_59 a0_60 a0_61 a0_62 a0_63 a0_64 a0_65 a0_66 a0_67 a0_68 a0_69 a0_70 a0_71 a0_72 a0_73 a0_74 a0_75 a0_76)) else (csrno_Check.j0 k a1 true a0_0 a0_1 a0_2 a0_3 a0_4 a0_5 a0_6 a0_7 a0_8 a0_9 a0_10 a0_11 a0_12 a0_13 a0_14 a0_15 a0_16 a0_17 a0_18 a0_19 a0_20 a0_21 a0_22 a0_23 a0_24 a0_25 a0_26 a0_27 a0_28 a0_29 a0_30 a0_31 a0_32 a0_33 a0_34 a0_35 a0_36 a0_37 a0_38 a0_39 a0_40 a0_41 a0_42 a0_43 a0_44 a0_45 a0_46 a0_47 a0_48 a0_49 a0_50 a0_51 a0_52 a0_53 a0_54 a0_55 a0_56 a0_57 a0_58 a0_59 a0_60 a0_61 a0_62 a0_63 a0_64 a0_65 a0_66 a0_67 a0_68 a0_69 a0_70 a0_71 a0_72 a0_73 a0_74 a0_75 a0_76)) = some r := H
    have A6 := Aside0.mk A60
    clear A60
    by_cases c7 : t104 = true
    · subst c7
      have H1 : (if a2 = true then (csrno_Check.j0 k a1 ((a1 / 1024) == 3) a0_0 a0_1 a0_2 a0_3 a0_4 a0_5 a0_6 a0_7 a0_8 a0_9 a0_10 a0_11 a0_12 a0_13 a0_14 a0_15 a0_16 a0_17 a0_18 a0_19 a0_20 a0_21 a0_22 a0_23 a0_24 a0_25 a0_26 a0_27 a0_28 a0_29 a0_30 a0_31 a0_32 a0_33 a0_34 a0_35 a0_36 a0_37 a0_38 a0_39 a0_40 a0_41 a0_42 a0_43 a0_44 a0_45 a0_46 a0_47 a0_48 a0_49 a0_50 a0_51 a0_52 a0_53 a0_54 a0_55 a0_56 a0_57 a0_58 a0_59 a0_60 a0_61 a0_62 a0_63 a0_64 a0_65 a0_66 a0_67 a0_68 a0_69 a0_70 a0_71 a0_72 a0_73 a0_74 a0_75 a0_76) else (csrno_Check.j0 k a1 false a0_0 a0_1 a0_2 a0_3 a0_4 a0_5 a0_6 a0_7 a0_8 a0_9 a0_10 a0_11 a0_12 a0_13 a0_14 a0_15 a0_16 a0_17 a0_18 a0_19 a0_20 a0_21 a0_22 a0_23 a0_24 a0_25 a0_26 a0_27 a0_28 a0_29 a0_30 a0_31 a0_32 a0_33 a0_34 a0_35 a0_36 a0_37 a0_38 a0_39 a0_40 a0_41 a0_42 a0_43 a0_44 a0_45 a0_46 a0_47 a0_48 a0_49 a0_50 a0_51 a0_52 a0_53 a0_54 a0_55 a0_56 a0_57 a0_58 a0_59 a0_60 a0_61 a0_62 a0_63 a0_64 a0_65 a0_66 a0_67 a0_68 a0_69 a0_70 a0_71 a0_72 a0_73 a0_74 a0_75 a0_76)) = some r := by rw [if_pos rfl] at H; exact H
      clear H
      have H := H1
      clear H1
      by_cases c8 : a2 = true
      · subst c8
        have H1 : (csrno_Check.j0 k a1 ((a1 / 1024) == 3) a0_0 a0_1 a0_2 a0_3 a0_4 a0_5 a0_6 a0_7 a0_8 a0_9 a0_10 a0_11 a0_12 a0_13 a0_14 a0_15 a0_16 a0_17 a0_18 a0_19 a0_20 a0_21 a0_22 a0_23 a0_24 a0_25 a0_26 a0_27 a0_28 a0_29 a0_30 a0_31 a0_32 a0_33 a0_34 a0_35 a0_36 a0_37 a0_38 a0_39 a0_40 a0_41 a0_42 a0_43 a0_44 a0_45 a0_46 a0_47 a0_48 a0_49 a0_50 a0_51 a0_52 a0_53 a0_54 a0_55 a0_56 a0_57 a0_58 a0_59 a0_60 a0_61 a0_62 a0_63 a0_64 a0_65 a0_66 a0_67 a0_68 a0_69 a0_70 a0_71 a0_72 a0_73 a0_74 a0_75 a0_76) = some r := by rw [if_pos rfl] at H; exact H
        clear H
        have H := H1
        clear H1
        have H' := Aside0.mk H
        clear H
        go_wp2_with (first | ((with_reducible refine gate_callee (f := 12) rfl ?_); refine goesL_ (some 9) rfl rfl Tryd.func12 (by kernel_rfl) rfl #[.int .i64 a1] rfl (by (try simp only [List.map_toArray, List.map_cons, List.map_nil]); first | done | rfl | (simp only [List.length_drop, List.length_take]; rfl)) ?_; (with_reducible refine (csrno_Known.calls a1 true _ A6.out (Tab.from hT (by repeat (first | (with_reducible first | exact HB.out | exact Below.refl _ _ | apply below_alloc | refine below_set ?_ GE103.out | apply pw_below_drewN | apply below_drew1) | exact HB.out)))).mono ?_); rintro e w' ⟨rfl, ⟨nd, rfl⟩⟩; refine ⟨_, rfl, ?_⟩))
        go_meet
        case rel => exact ⟨_, (((a1 / 1024) == 3)), (by first | rfl | (simp; done) | (simp [*]; done)), H', ⟨by first | omega | exact Nat.le_refl _⟩, ⟨by (with_reducible repeat (first | refine blk_drewN ?_ _ | refine blk_drew ?_ | refine blk_alloc ?_ _)); exact BK103.out⟩, ⟨by repeat (first | (with_reducible first | exact HB.out | apply below_alloc | apply pw_below_drewN | apply below_drew1 | refine below_set ?_ GE103.out) | exact HB.out)⟩⟩
      · replace c8 := Bool.eq_false_iff.mpr c8
        subst c8
        have H1 : (csrno_Check.j0 k a1 false a0_0 a0_1 a0_2 a0_3 a0_4 a0_5 a0_6 a0_7 a0_8 a0_9 a0_10 a0_11 a0_12 a0_13 a0_14 a0_15 a0_16 a0_17 a0_18 a0_19 a0_20 a0_21 a0_22 a0_23 a0_24 a0_25 a0_26 a0_27 a0_28 a0_29 a0_30 a0_31 a0_32 a0_33 a0_34 a0_35 a0_36 a0_37 a0_38 a0_39 a0_40 a0_41 a0_42 a0_43 a0_44 a0_45 a0_46 a0_47 a0_48 a0_49 a0_50 a0_51 a0_52 a0_53 a0_54 a0_55 a0_56 a0_57 a0_58 a0_59 a0_60 a0_61 a0_62 a0_63 a0_64 a0_65 a0_66 a0_67 a0_68 a0_69 a0_70 a0_71 a0_72 a0_73 a0_74 a0_75 a0_76) = some r := by rw [if_neg (show ¬ (false = true) by decide)] at H; exact H
        clear H
        have H := H1
        clear H1
        have H' := Aside0.mk H
        clear H
        go_wp2_with (first | ((with_reducible refine gate_callee (f := 12) rfl ?_); refine goesL_ (some 9) rfl rfl Tryd.func12 (by kernel_rfl) rfl #[.int .i64 a1] rfl (by (try simp only [List.map_toArray, List.map_cons, List.map_nil]); first | done | rfl | (simp only [List.length_drop, List.length_take]; rfl)) ?_; (with_reducible refine (csrno_Known.calls a1 true _ A6.out (Tab.from hT (by repeat (first | (with_reducible first | exact HB.out | exact Below.refl _ _ | apply below_alloc | refine below_set ?_ GE103.out | apply pw_below_drewN | apply below_drew1) | exact HB.out)))).mono ?_); rintro e w' ⟨rfl, ⟨nd, rfl⟩⟩; refine ⟨_, rfl, ?_⟩))
        go_meet
        case rel => exact ⟨_, (false), (by first | rfl | (simp; done) | (simp [*]; done)), H', ⟨by first | omega | exact Nat.le_refl _⟩, ⟨by (with_reducible repeat (first | refine blk_drewN ?_ _ | refine blk_drew ?_ | refine blk_alloc ?_ _)); exact BK103.out⟩, ⟨by repeat (first | (with_reducible first | exact HB.out | apply below_alloc | apply pw_below_drewN | apply below_drew1 | refine below_set ?_ GE103.out) | exact HB.out)⟩⟩
    · replace c7 := Bool.eq_false_iff.mpr c7
      subst c7
      have H1 : (csrno_Check.j0 k a1 true a0_0 a0_1 a0_2 a0_3 a0_4 a0_5 a0_6 a0_7 a0_8 a0_9 a0_10 a0_11 a0_12 a0_13 a0_14 a0_15 a0_16 a0_17 a0_18 a0_19 a0_20 a0_21 a0_22 a0_23 a0_24 a0_25 a0_26 a0_27 a0_28 a0_29 a0_30 a0_31 a0_32 a0_33 a0_34 a0_35 a0_36 a0_37 a0_38 a0_39 a0_40 a0_41 a0_42 a0_43 a0_44 a0_45 a0_46 a0_47 a0_48 a0_49 a0_50 a0_51 a0_52 a0_53 a0_54 a0_55 a0_56 a0_57 a0_58 a0_59 a0_60 a0_61 a0_62 a0_63 a0_64 a0_65 a0_66 a0_67 a0_68 a0_69 a0_70 a0_71 a0_72 a0_73 a0_74 a0_75 a0_76) = some r := by rw [if_neg (show ¬ (false = true) by decide)] at H; exact H
      clear H
      have H := H1
      clear H1
      have H' := Aside0.mk H
      clear H
      go_wp2_with (first | ((with_reducible refine gate_callee (f := 12) rfl ?_); refine goesL_ (some 9) rfl rfl Tryd.func12 (by kernel_rfl) rfl #[.int .i64 a1] rfl (by (try simp only [List.map_toArray, List.map_cons, List.map_nil]); first | done | rfl | (simp only [List.length_drop, List.length_take]; rfl)) ?_; (with_reducible refine (csrno_Known.calls a1 false _ A6.out (Tab.from hT (by repeat (first | (with_reducible first | exact HB.out | exact Below.refl _ _ | apply below_alloc | refine below_set ?_ GE103.out | apply pw_below_drewN | apply below_drew1) | exact HB.out)))).mono ?_); rintro e w' ⟨rfl, ⟨nd, rfl⟩⟩; refine ⟨_, rfl, ?_⟩))
      go_meet
      case rel => exact ⟨_, (true), (by first | rfl | (simp; done) | (simp [*]; done)), H', ⟨by first | omega | exact Nat.le_refl _⟩, ⟨by (with_reducible repeat (first | refine blk_drewN ?_ _ | refine blk_drew ?_ | refine blk_alloc ?_ _)); exact BK103.out⟩, ⟨by repeat (first | (with_reducible first | exact HB.out | apply below_alloc | apply pw_below_drewN | apply below_drew1 | refine below_set ?_ GE103.out) | exact HB.out)⟩⟩
  case rest =>
    clear HC4
    try clear c1
    try clear p2
    try clear c7
    try clear c8
    obtain ⟨kq, x18_3, rfl, HA, HJ3, BK103, HB⟩ := hcut
    cases kq with
    | zero => exact absurd HA.out (by simp [csrno_Check.j0])
    | succ kj3 =>
      have H := HA.out
      clear HA
      simp only [csrno_Check.j0] at H
      by_cases c9 : x18_3 = true
      · subst c9
        have H1 : (some 2) = some r := by rw [if_pos rfl] at H; exact H
        clear H
        have H := H1
        clear H1
        obtain rfl := Option.some.inj H
        go_wp2
        go_ret
        exact ⟨by first | rfl | (simp [errW_none, errW_some] <;> rfl) | (simp [*, errW_none, errW_some] <;> rfl), by repeat (first | (with_reducible first | exact HB.out | apply below_alloc | apply pw_below_drewN | apply below_drew1 | refine below_set ?_ GE103.out) | exact HB.out)⟩
      · replace c9 := Bool.eq_false_iff.mpr c9
        subst c9
        have H1 : (if a0_33 = 0 then (csrno_Check.j1 kj3 a1 false a0_0 a0_1 a0_2 a0_3 a0_4 a0_5 a0_6 a0_7 a0_8 a0_9 a0_10 a0_11 a0_12 a0_13 a0_14 a0_15 a0_16 a0_17 a0_18 a0_19 a0_20 a0_21 a0_22 a0_23 a0_24 a0_25 a0_26 a0_27 a0_28 a0_29 a0_30 a0_31 a0_32 a0_33 a0_34 a0_35 a0_36 a0_37 a0_38 a0_39 a0_40 a0_41 a0_42 a0_43 a0_44 a0_45 a0_46 a0_47 a0_48 a0_49 a0_50 a0_51 a0_52 a0_53 a0_54 a0_55 a0_56 a0_57 a0_58 a0_59 a0_60 a0_61 a0_62 a0_63 a0_64 a0_65 a0_66 a0_67 a0_68 a0_69 a0_70 a0_71 a0_72 a0_73 a0_74 a0_75 a0_76) else (csrno_Check.j1 kj3 a1 (a0_33 != 1) a0_0 a0_1 a0_2 a0_3 a0_4 a0_5 a0_6 a0_7 a0_8 a0_9 a0_10 a0_11 a0_12 a0_13 a0_14 a0_15 a0_16 a0_17 a0_18 a0_19 a0_20 a0_21 a0_22 a0_23 a0_24 a0_25 a0_26 a0_27 a0_28 a0_29 a0_30 a0_31 a0_32 a0_33 a0_34 a0_35 a0_36 a0_37 a0_38 a0_39 a0_40 a0_41 a0_42 a0_43 a0_44 a0_45 a0_46 a0_47 a0_48 a0_49 a0_50 a0_51 a0_52 a0_53 a0_54 a0_55 a0_56 a0_57 a0_58 a0_59 a0_60 a0_61 a0_62 a0_63 a0_64 a0_65 a0_66 a0_67 a0_68 a0_69 a0_70 a0_71 a0_72 a0_73 a0_74 a0_75 a0_76)) = some r := by rw [if_neg (show ¬ (false = true) by decide)] at H; exact H
        clear H
        have H := H1
        clear H1
        have HC10 := Aside0.mk H
        clear H
        go_upto_region 3 with (fail)
        go_cut [26] (fun v26 wc => ∃ (kq : Nat) (x26_9 : Bool), v26 = .bool x26_9 ∧ Aside0 (csrno_Check.j1 kq a1 x26_9 a0_0 a0_1 a0_2 a0_3 a0_4 a0_5 a0_6 a0_7 a0_8 a0_9 a0_10 a0_11 a0_12 a0_13 a0_14 a0_15 a0_16 a0_17 a0_18 a0_19 a0_20 a0_21 a0_22 a0_23 a0_24 a0_25 a0_26 a0_27 a0_28 a0_29 a0_30 a0_31 a0_32 a0_33 a0_34 a0_35 a0_36 a0_37 a0_38 a0_39 a0_40 a0_41 a0_42 a0_43 a0_44 a0_45 a0_46 a0_47 a0_48 a0_49 a0_50 a0_51 a0_52 a0_53 a0_54 a0_55 a0_56 a0_57 a0_58 a0_59 a0_60 a0_61 a0_62 a0_63 a0_64 a0_65 a0_66 a0_67 a0_68 a0_69 a0_70 a0_71 a0_72 a0_73 a0_74 a0_75 a0_76 = some r) ∧ Aside0 (kq ≤ kj3) ∧ Aside0 (wc.heap[gb103]? = some (.cells #[.int .u64 a0_0, .int .u64 a0_1, .int .u64 a0_2, .int .u64 a0_3, .int .u64 a0_4, .int .u64 a0_5, .int .u64 a0_6, .int .u64 a0_7, .int .u64 a0_8, .int .u64 a0_9, .int .u64 a0_10, .int .u64 a0_11, .int .u64 a0_12, .int .u64 a0_13, .int .u64 a0_14, .int .u64 a0_15, .int .u64 a0_16, .int .u64 a0_17, .int .u64 a0_18, .int .u64 a0_19, .int .u64 a0_20, .int .u64 a0_21, .int .u64 a0_22, .int .u64 a0_23, .int .u64 a0_24, .int .u64 a0_25, .int .u64 a0_26, .int .u64 a0_27, .int .u64 a0_28, .int .u64 a0_29, .int .u64 a0_30, .int .u64 a0_31, .int .u64 a0_32, .int .u8 a0_33, .bool a0_34, .bool a0_35, .bool a0_36, .int .u64 a0_37, .int .u64 a0_38, .int .u64 a0_39, .int .u64 a0_40, .int .u64 a0_41, .int .u64 a0_42, .int .u64 a0_43, .int .u64 a0_44, .int .u64 a0_45, .int .u64 a0_46, .int .u64 a0_47, .int .u64 a0_48, .int .u64 a0_49, .int .u64 a0_50, .int .u64 a0_51, .int .u64 a0_52, .int .u64 a0_53, .int .u64 a0_54, .int .u64 a0_55, .int .u64 a0_56, .int .u64 a0_57, .int .u64 a0_58, .int .u64 a0_59, .int .u64 a0_60, .int .u64 a0_61, .int .u64 a0_62, .int .u64 a0_63, .int .u64 a0_64, .int .u64 a0_65, .int .u64 a0_66, .int .u64 a0_67, .int .u64 a0_68, .int .u64 a0_69, .int .u64 a0_70, .int .u64 a0_71, .int .u64 a0_72, .int .u64 a0_73, .int .u64 a0_74, .int .u64 a0_75, .int .u64 a0_76] 30 (0, 0))) ∧ Aside0 (Below w.heap.size w wc))
        case first =>
          have H := HC10.out
          clear HC10
          by_cases c11 : a0_33 = 0
          · rw [if_pos c11] at H
            have c11b0 : (a0_33 == 0) = true := beq_iff_eq.mpr c11
            have c11b1 : (a0_33 != 0) = false := bne_eq_false_iff_eq.mpr c11
            clear c11
            (first | rw [c11b0] | (simp only [i64_w, i32_w]; rw [c11b0]) | skip)
            have H' := Aside0.mk H
            clear H
            have hcz12_33 : wc.cell? ⟨gb103, 33, none⟩ = some (.int .u8 a0_33) := (blk_cell BK103.out 33).trans rfl
            have hcz12_34 : wc.cell? ⟨gb103, 34, none⟩ = some (.bool a0_34) := (blk_cell BK103.out 34).trans rfl
            have hcz12_38 : wc.cell? ⟨gb103, 38, none⟩ = some (.int .u64 a0_38) := (blk_cell BK103.out 38).trans rfl
            have hcz12_58 : wc.cell? ⟨gb103, 58, none⟩ = some (.int .u64 a0_58) := (blk_cell BK103.out 58).trans rfl
            have hfz12_33 := blk_frozen BK103.out 33
            have hfz12_34 := blk_frozen BK103.out 34
            have hfz12_38 := blk_frozen BK103.out 38
            have hfz12_58 := blk_frozen BK103.out 58
            go_wp2
            go_meet
            case rel => exact ⟨_, (false), (by first | rfl | (simp; done) | (simp [*]; done)), H', ⟨by have := HJ3.out; first | omega | exact Nat.le_refl _⟩, ⟨by (with_reducible repeat (first | refine blk_drewN ?_ _ | refine blk_drew ?_ | refine blk_alloc ?_ _)); exact BK103.out⟩, ⟨by repeat (first | (with_reducible first | exact HB.out | apply below_alloc | apply pw_below_drewN | apply below_drew1 | refine below_set ?_ GE103.out) | exact HB.out)⟩⟩
          · rw [if_neg c11] at H
            have c11b0 : (a0_33 == 0) = false := beq_eq_false_iff_ne.mpr c11
            have c11b1 : (a0_33 != 0) = true := bne_iff_ne.mpr c11
            (first | rw [c11b0] | (simp only [i64_w, i32_w]; rw [c11b0]) | skip)
            have H' := Aside0.mk H
            clear H
            have hcz13_33 : wc.cell? ⟨gb103, 33, none⟩ = some (.int .u8 a0_33) := (blk_cell BK103.out 33).trans rfl
            have hcz13_34 : wc.cell? ⟨gb103, 34, none⟩ = some (.bool a0_34) := (blk_cell BK103.out 34).trans rfl
            have hcz13_38 : wc.cell? ⟨gb103, 38, none⟩ = some (.int .u64 a0_38) := (blk_cell BK103.out 38).trans rfl
            have hcz13_58 : wc.cell? ⟨gb103, 58, none⟩ = some (.int .u64 a0_58) := (blk_cell BK103.out 58).trans rfl
            have hfz13_33 := blk_frozen BK103.out 33
            have hfz13_34 := blk_frozen BK103.out 34
            have hfz13_38 := blk_frozen BK103.out 38
            have hfz13_58 := blk_frozen BK103.out 58
            go_wp2
            go_meet
            case rel => exact ⟨_, ((a0_33 != 1)), (by first | rfl | (simp; done) | (simp [*]; done)), H', ⟨by have := HJ3.out; first | omega | exact Nat.le_refl _⟩, ⟨by (with_reducible repeat (first | refine blk_drewN ?_ _ | refine blk_drew ?_ | refine blk_alloc ?_ _)); exact BK103.out⟩, ⟨by repeat (first | (with_reducible first | exact HB.out | apply below_alloc | apply pw_below_drewN | apply below_drew1 | refine below_set ?_ GE103.out) | exact HB.out)⟩⟩
        case rest =>
          clear HC10
          try clear c1
          try clear p2
          try clear c7
          try clear c8
          try clear c9
          try clear c11
          try clear c11b0
          try clear c11b1
          try clear c12
          try clear hcz12_33
          try clear hcz12_34
          try clear hcz12_38
          try clear hcz12_58
          try clear hcz13_33
          try clear hcz13_34
          try clear hcz13_38
          try clear hcz13_58
          try clear hfz12_33
          try clear hfz12_34
          try clear hfz12_38
          try clear hfz12_58
          try clear hfz13_33
          try clear hfz13_34
          try clear hfz13_38
          try clear hfz13_58
          try clear p2
          obtain ⟨kq, x26_9, rfl, HA, HJ9, BK103, HB⟩ := hcut
          cases kq with
          | zero => exact absurd HA.out (by simp [csrno_Check.j1])
          | succ kj9 =>
            have H := HA.out
            clear HA
            simp only [csrno_Check.j1] at H
            by_cases c14 : x26_9 = true
            · subst c14
              have H1 : (some 0) = some r := by rw [if_pos rfl] at H; exact H
              clear H
              have H := H1
              clear H1
              obtain rfl := Option.some.inj H
              go_wp2
              go_ret
              exact ⟨by first | rfl | (simp [errW_none, errW_some] <;> rfl) | (simp [*, errW_none, errW_some] <;> rfl), by repeat (first | (with_reducible first | exact HB.out | apply below_alloc | apply pw_below_drewN | apply below_drew1 | refine below_set ?_ GE103.out) | exact HB.out)⟩
            · replace c14 := Bool.eq_false_iff.mpr c14
              subst c14
              have H1 : (if a1 ≥ 3072 then (csrno_Check.j2 kj9 a1 (Go.bits .and .i64 (a1 / 256) 3) (decide (a1 ≤ 3074)) a0_0 a0_1 a0_2 a0_3 a0_4 a0_5 a0_6 a0_7 a0_8 a0_9 a0_10 a0_11 a0_12 a0_13 a0_14 a0_15 a0_16 a0_17 a0_18 a0_19 a0_20 a0_21 a0_22 a0_23 a0_24 a0_25 a0_26 a0_27 a0_28 a0_29 a0_30 a0_31 a0_32 a0_33 a0_34 a0_35 a0_36 a0_37 a0_38 a0_39 a0_40 a0_41 a0_42 a0_43 a0_44 a0_45 a0_46 a0_47 a0_48 a0_49 a0_50 a0_51 a0_52 a0_53 a0_54 a0_55 a0_56 a0_57 a0_58 a0_59 a0_60 a0_61 a0_62 a0_63 a0_64 a0_65 a0_66 a0_67 a0_68 a0_69 a0_70 a0_71 a0_72 a0_73 a0_74 a0_75 a0_76) else (csrno_Check.j2 kj9 a1 (Go.bits .and .i64 (a1 / 256) 3) false a0_0 a0_1 a0_2 a0_3 a0_4 a0_5 a0_6 a0_7 a0_8 a0_9 a0_10 a0_11 a0_12 a0_13 a0_14 a0_15 a0_16 a0_17 a0_18 a0_19 a0_20 a0_21 a0_22 a0_23 a0_24 a0_25 a0_26 a0_27 a0_28 a0_29 a0_30 a0_31 a0_32 a0_33 a0_34 a0_35 a0_36 a0_37 a0_38 a0_39 a0_40 a0_41 a0_42 a0_43 a0_44 a0_45 a0_46 a0_47 a0_48 a0_49 a0_50 a0_51 a0_52 a0_53 a0_54 a0_55 a0_56 a0_57 a0_58 a0_59 a0_60 a0_61 a0_62 a0_63 a0_64 a0_65 a0_66 a0_67 a0_68 a0_69 a0_70 a0_71 a0_72 a0_73 a0_74 a0_75 a0_76)) = some r := by rw [if_neg (show ¬ (false = true) by decide)] at H; exact H
              clear H
              have H := H1
              clear H1
              have HC15 := Aside0.mk H
              clear H
              go_upto_region 6 with (fail)
              go_cut [30] (fun v30 wc => ∃ (kq : Nat) (x30_14 : Bool), v30 = .bool x30_14 ∧ Aside0 (csrno_Check.j2 kq a1 (Go.bits .and .i64 (a1 / 256) 3) x30_14 a0_0 a0_1 a0_2 a0_3 a0_4 a0_5 a0_6 a0_7 a0_8 a0_9 a0_10 a0_11 a0_12 a0_13 a0_14 a0_15 a0_16 a0_17 a0_18 a0_19 a0_20 a0_21 a0_22 a0_23 a0_24 a0_25 a0_26 a0_27 a0_28 a0_29 a0_30 a0_31 a0_32 a0_33 a0_34 a0_35 a0_36 a0_37 a0_38 a0_39 a0_40 a0_41 a0_42 a0_43 a0_44 a0_45 a0_46 a0_47 a0_48 a0_49 a0_50 a0_51 a0_52 a0_53 a0_54 a0_55 a0_56 a0_57 a0_58 a0_59 a0_60 a0_61 a0_62 a0_63 a0_64 a0_65 a0_66 a0_67 a0_68 a0_69 a0_70 a0_71 a0_72 a0_73 a0_74 a0_75 a0_76 = some r) ∧ Aside0 (kq ≤ kj9) ∧ Aside0 (wc.heap[gb103]? = some (.cells #[.int .u64 a0_0, .int .u64 a0_1, .int .u64 a0_2, .int .u64 a0_3, .int .u64 a0_4, .int .u64 a0_5, .int .u64 a0_6, .int .u64 a0_7, .int .u64 a0_8, .int .u64 a0_9, .int .u64 a0_10, .int .u64 a0_11, .int .u64 a0_12, .int .u64 a0_13, .int .u64 a0_14, .int .u64 a0_15, .int .u64 a0_16, .int .u64 a0_17, .int .u64 a0_18, .int .u64 a0_19, .int .u64 a0_20, .int .u64 a0_21, .int .u64 a0_22, .int .u64 a0_23, .int .u64 a0_24, .int .u64 a0_25, .int .u64 a0_26, .int .u64 a0_27, .int .u64 a0_28, .int .u64 a0_29, .int .u64 a0_30, .int .u64 a0_31, .int .u64 a0_32, .int .u8 a0_33, .bool a0_34, .bool a0_35, .bool a0_36, .int .u64 a0_37, .int .u64 a0_38, .int .u64 a0_39, .int .u64 a0_40, .int .u64 a0_41, .int .u64 a0_42, .int .u64 a0_43, .int .u64 a0_44, .int .u64 a0_45, .int .u64 a0_46, .int .u64 a0_47, .int .u64 a0_48, .int .u64 a0_49, .int .u64 a0_50, .int .u64 a0_51, .int .u64 a0_52, .int .u64 a0_53, .int .u64 a0_54, .int .u64 a0_55, .int .u64 a0_56, .int .u64 a0_57, .int .u64 a0_58, .int .u64 a0_59, .int .u64 a0_60, .int .u64 a0_61, .int .u64 a0_62, .int .u64 a0_63, .int .u64 a0_64, .int .u64 a0_65, .int .u64 a0_66, .int .u64 a0_67, .int .u64 a0_68, .int .u64 a0_69, .int .u64 a0_70, .int .u64 a0_71, .int .u64 a0_72, .int .u64 a0_73, .int .u64 a0_74, .int .u64 a0_75, .int .u64 a0_76] 30 (0, 0))) ∧ Aside0 (Below w.heap.size w wc))
              case first =>
                have H := HC15.out
                clear HC15
                by_cases c16 : a1 ≥ 3072
                · rw [if_pos c16] at H
                  have c16b0 : decide (3072 ≤ a1) = true := decide_eq_true c16
                  clear c16
                  (first | rw [c16b0] | (simp only [i64_w, i32_w]; rw [c16b0]) | skip)
                  have H' := Aside0.mk H
                  clear H
                  go_wp2
                  go_meet
                  case rel => exact ⟨_, (decide (a1 ≤ 3074)), (by first | rfl | (simp; done) | (simp [*]; done)), H', ⟨by have := HJ3.out; have := HJ9.out; first | omega | exact Nat.le_refl _⟩, ⟨by (with_reducible repeat (first | refine blk_drewN ?_ _ | refine blk_drew ?_ | refine blk_alloc ?_ _)); exact BK103.out⟩, ⟨by repeat (first | (with_reducible first | exact HB.out | apply below_alloc | apply pw_below_drewN | apply below_drew1 | refine below_set ?_ GE103.out) | exact HB.out)⟩⟩
                · rw [if_neg c16] at H
                  have c16b0 : decide (3072 ≤ a1) = false := decide_eq_false c16
                  clear c16
                  (first | rw [c16b0] | (simp only [i64_w, i32_w]; rw [c16b0]) | skip)
                  have H' := Aside0.mk H
                  clear H
                  go_wp2
                  go_meet
                  case rel => exact ⟨_, (false), (by first | rfl | (simp; done) | (simp [*]; done)), H', ⟨by have := HJ3.out; have := HJ9.out; first | omega | exact Nat.le_refl _⟩, ⟨by (with_reducible repeat (first | refine blk_drewN ?_ _ | refine blk_drew ?_ | refine blk_alloc ?_ _)); exact BK103.out⟩, ⟨by repeat (first | (with_reducible first | exact HB.out | apply below_alloc | apply pw_below_drewN | apply below_drew1 | refine below_set ?_ GE103.out) | exact HB.out)⟩⟩
              case rest =>
                clear HC15
                try clear c1
                try clear p2
                try clear c7
                try clear c8
                try clear c9
                try clear c11
                try clear c11b0
                try clear c11b1
                try clear c12
                try clear c14
                try clear c15
                try clear c16
                try clear c16b0
                try clear hcz12_33
                try clear hcz12_34
                try clear hcz12_38
                try clear hcz12_58
                try clear hcz13_33
                try clear hcz13_34
                try clear hcz13_38
                try clear hcz13_58
                try clear hfz12_33
                try clear hfz12_34
                try clear hfz12_38
                try clear hfz12_58
                try clear hfz13_33
                try clear hfz13_34
                try clear hfz13_38
                try clear hfz13_58
                try clear p2
                obtain ⟨kq, x30_14, rfl, HA, HJ14, BK103, HB⟩ := hcut
                cases kq with
                | zero => exact absurd HA.out (by simp [csrno_Check.j2])
                | succ kj14 =>
                  have H := HA.out
                  clear HA
                  simp only [csrno_Check.j2] at H
                  by_cases c17 : x30_14 = true
                  · subst c17
                    have H1 : (if 0 ≤ (Go.bits .and .i64 a1 3) then ((csrno_counter.f kj14 a0_0 a0_1 a0_2 a0_3 a0_4 a0_5 a0_6 a0_7 a0_8 a0_9 a0_10 a0_11 a0_12 a0_13 a0_14 a0_15 a0_16 a0_17 a0_18 a0_19 a0_20 a0_21 a0_22 a0_23 a0_24 a0_25 a0_26 a0_27 a0_28 a0_29 a0_30 a0_31 a0_32 a0_33 a0_34 a0_35 a0_36 a0_37 a0_38 a0_39 a0_40 a0_41 a0_42 a0_43 a0_44 a0_45 a0_46 a0_47 a0_48 a0_49 a0_50 a0_51 a0_52 a0_53 a0_54 a0_55 a0_56 a0_57 a0_58 a0_59 a0_60 a0_61 a0_62 a0_63 a0_64 a0_65 a0_66 a0_67 a0_68 a0_69 a0_70 a0_71 a0_72 a0_73 a0_74 a0_75 a0_76 (shl .u64 1 (Go.bits .and .i64 a1 3))).bind fun t105 => (some t105)) else (none)) = some r := by rw [if_pos rfl] at H; exact H
                    clear H
                    have H := H1
                    clear H1
                    by_cases c18 : 0 ≤ (Go.bits .and .i64 a1 3)
                    · rw [if_pos c18] at H
                      have c18b0 := eq_true c18
                      have c18b1 : decide (0 ≤ (Go.bits .and .i64 a1 3)) = true := decide_eq_true c18
                      clear c18
                      obtain ⟨ji19, hji19⟩ : ∃ j_ : Int, (shl .u64 1 (Go.bits .and .i64 a1 3)) = j_ := ⟨_, rfl⟩
                      replace H : ((csrno_counter.f kj14 a0_0 a0_1 a0_2 a0_3 a0_4 a0_5 a0_6 a0_7 a0_8 a0_9 a0_10 a0_11 a0_12 a0_13 a0_14 a0_15 a0_16 a0_17 a0_18 a0_19 a0_20 a0_21 a0_22 a0_23 a0_24 a0_25 a0_26 a0_27 a0_28 a0_29 a0_30 a0_31 a0_32 a0_33 a0_34 a0_35 a0_36 a0_37 a0_38 a0_39 a0_40 a0_41 a0_42 a0_43 a0_44 a0_45 a0_46 a0_47 a0_48 a0_49 a0_50 a0_51 a0_52 a0_53 a0_54 a0_55 a0_56 a0_57 a0_58 a0_59 a0_60 a0_61 a0_62 a0_63 a0_64 a0_65 a0_66 a0_67 a0_68 a0_69 a0_70 a0_71 a0_72 a0_73 a0_74 a0_75 a0_76 (ji19)).bind fun t105 => (some t105)) = some r := by first | (rw [hji19] at H; exact H) | (simp only [hji19] at H ⊢; exact H)
                      have hji19_ : (IntKind.u64.wrap (1 * 2 ^ min (Go.bits .and .i64 a1 3).toNat 64)) = ji19 := hji19
                      have hji19z : (Go.bits .and .i64 a1 3) ≤ 64 → (IntKind.u64.wrap (1 * 2 ^ (Go.bits .and .i64 a1 3).toNat)) = ji19 := shl_small hji19
                      have hji19u : (IntKind.u64.wrap (2 ^ min (Go.bits .and .i64 a1 3).toNat 64)) = ji19 := by have h_ := hji19_; rw [Int.one_mul] at h_; exact h_
                      have hji19v : (Go.bits .and .i64 a1 3) ≤ 64 → (IntKind.u64.wrap (2 ^ (Go.bits .and .i64 a1 3).toNat)) = ji19 := fun hle_ => by have h_ := hji19z hle_; rw [Int.one_mul] at h_; exact h_
                      replace H := Option.bind_eq_some_iff.mp H
                      obtain ⟨t105, A200, H⟩ := H
                      replace H : (some t105) = some r := H
                      have A20 := Aside0.mk A200
                      clear A200
                      obtain rfl := Option.some.inj H
                      try go_wp2
                      have n0_ := Aside0.mk (blk_drew BK103.out)
                      have n1_ := Aside0.mk (below_drew1 HB.out)
                      clear BK103
                      clear HB
                      have BK103 := n0_
                      have HB := n1_
                      clear n0_ n1_
                      refine start_ (n := 6) (S := fun w' => w'.cell? ⟨gb103, 0, none⟩ = some (.int .u64 a0_0) ∧ w'.cell? ⟨gb103, 1, none⟩ = some (.int .u64 a0_1) ∧ w'.cell? ⟨gb103, 2, none⟩ = some (.int .u64 a0_2) ∧ w'.cell? ⟨gb103, 3, none⟩ = some (.int .u64 a0_3) ∧ w'.cell? ⟨gb103, 4, none⟩ = some (.int .u64 a0_4) ∧ w'.cell? ⟨gb103, 5, none⟩ = some (.int .u64 a0_5) ∧ w'.cell? ⟨gb103, 6, none⟩ = some (.int .u64 a0_6) ∧ w'.cell? ⟨gb103, 7, none⟩ = some (.int .u64 a0_7) ∧ w'.cell? ⟨gb103, 8, none⟩ = some (.int .u64 a0_8) ∧ w'.cell? ⟨gb103, 9, none⟩ = some (.int .u64 a0_9) ∧ w'.cell? ⟨gb103, 10, none⟩ = some (.int .u64 a0_10) ∧ w'.cell? ⟨gb103, 11, none⟩ = some (.int .u64 a0_11) ∧ w'.cell? ⟨gb103, 12, none⟩ = some (.int .u64 a0_12) ∧ w'.cell? ⟨gb103, 13, none⟩ = some (.int .u64 a0_13) ∧ w'.cell? ⟨gb103, 14, none⟩ = some (.int .u64 a0_14) ∧ w'.cell? ⟨gb103, 15, none⟩ = some (.int .u64 a0_15) ∧ w'.cell? ⟨gb103, 16, none⟩ = some (.int .u64 a0_16) ∧ w'.cell? ⟨gb103, 17, none⟩ = some (.int .u64 a0_17) ∧ w'.cell? ⟨gb103, 18, none⟩ = some (.int .u64 a0_18) ∧ w'.cell? ⟨gb103, 19, none⟩ = some (.int .u64 a0_19) ∧ w'.cell? ⟨gb103, 20, none⟩ = some (.int .u64 a0_20) ∧ w'.cell? ⟨gb103, 21, none⟩ = some (.int .u64 a0_21) ∧ w'.cell? ⟨gb103, 22, none⟩ = some (.int .u64 a0_22) ∧ w'.cell? ⟨gb103, 23, none⟩ = some (.int .u64 a0_23) ∧ w'.cell? ⟨gb103, 24, none⟩ = some (.int .u64 a0_24) ∧ w'.cell? ⟨gb103, 25, none⟩ = some (.int .u64 a0_25) ∧ w'.cell? ⟨gb103, 26, none⟩ = some (.int .u64 a0_26) ∧ w'.cell? ⟨gb103, 27, none⟩ = some (.int .u64 a0_27) ∧ w'.cell? ⟨gb103, 28, none⟩ = some (.int .u64 a0_28) ∧ w'.cell? ⟨gb103, 29, none⟩ = some (.int .u64 a0_29) ∧ w'.cell? ⟨gb103, 30, none⟩ = some (.int .u64 a0_30) ∧ w'.cell? ⟨gb103, 31, none⟩ = some (.int .u64 a0_31) ∧ w'.cell? ⟨gb103, 32, none⟩ = some (.int .u64 a0_32) ∧ w'.cell? ⟨gb103, 33, none⟩ = some (.int .u8 a0_33) ∧ w'.cell? ⟨gb103, 34, none⟩ = some (.bool a0_34) ∧ w'.cell? ⟨gb103, 35, none⟩ = some (.bool a0_35) ∧ w'.cell? ⟨gb103, 36, none⟩ = some (.bool a0_36) ∧ w'.cell? ⟨gb103, 37, none⟩ = some (.int .u64 a0_37) ∧ w'.cell? ⟨gb103, 38, none⟩ = some (.int .u64 a0_38) ∧ w'.cell? ⟨gb103, 39, none⟩ = some (.int .u64 a0_39) ∧ w'.cell? ⟨gb103, 40, none⟩ = some (.int .u64 a0_40) ∧ w'.cell? ⟨gb103, 41, none⟩ = some (.int .u64 a0_41) ∧ w'.cell? ⟨gb103, 42, none⟩ = some (.int .u64 a0_42) ∧ w'.cell? ⟨gb103, 43, none⟩ = some (.int .u64 a0_43) ∧ w'.cell? ⟨gb103, 44, none⟩ = some (.int .u64 a0_44) ∧ w'.cell? ⟨gb103, 45, none⟩ = some (.int .u64 a0_45) ∧ w'.cell? ⟨gb103, 46, none⟩ = some (.int .u64 a0_46) ∧ w'.cell? ⟨gb103, 47, none⟩ = some (.int .u64 a0_47) ∧ w'.cell? ⟨gb103, 48, none⟩ = some (.int .u64 a0_48) ∧ w'.cell? ⟨gb103, 49, none⟩ = some (.int .u64 a0_49) ∧ w'.cell? ⟨gb103, 50, none⟩ = some (.int .u64 a0_50) ∧ w'.cell? ⟨gb103, 51, none⟩ = some (.int .u64 a0_51) ∧ w'.cell? ⟨gb103, 52, none⟩ = some (.int .u64 a0_52) ∧ w'.cell? ⟨gb103, 53, none⟩ = some (.int .u64 a0_53) ∧ w'.cell? ⟨gb103, 54, none⟩ = some (.int .u64 a0_54) ∧ w'.cell? ⟨gb103, 55, none⟩ = some (.int .u64 a0_55) ∧ w'.cell? ⟨gb103, 56, none⟩ = some (.int .u64 a0_56) ∧ w'.cell? ⟨gb103, 57, none⟩ = some (.int .u64 a0_57) ∧ w'.cell? ⟨gb103, 58, none⟩ = some (.int .u64 a0_58) ∧ w'.cell? ⟨gb103, 59, none⟩ = some (.int .u64 a0_59) ∧ w'.cell? ⟨gb103, 60, none⟩ = some (.int .u64 a0_60) ∧ w'.cell? ⟨gb103, 61, none⟩ = some (.int .u64 a0_61) ∧ w'.cell? ⟨gb103, 62, none⟩ = some (.int .u64 a0_62) ∧ w'.cell? ⟨gb103, 63, none⟩ = some (.int .u64 a0_63) ∧ w'.cell? ⟨gb103, 64, none⟩ = some (.int .u64 a0_64) ∧ w'.cell? ⟨gb103, 65, none⟩ = some (.int .u64 a0_65) ∧ w'.cell? ⟨gb103, 66, none⟩ = some (.int .u64 a0_66) ∧ w'.cell? ⟨gb103, 67, none⟩ = some (.int .u64 a0_67) ∧ w'.cell? ⟨gb103, 68, none⟩ = some (.int .u64 a0_68) ∧ w'.cell? ⟨gb103, 69, none⟩ = some (.int .u64 a0_69) ∧ w'.cell? ⟨gb103, 70, none⟩ = some (.int .u64 a0_70) ∧ w'.cell? ⟨gb103, 71, none⟩ = some (.int .u64 a0_71) ∧ w'.cell? ⟨gb103, 72, none⟩ = some (.int .u64 a0_72) ∧ w'.cell? ⟨gb103, 73, none⟩ = some (.int .u64 a0_73) ∧ w'.cell? ⟨gb103, 74, none⟩ = some (.int .u64 a0_74) ∧ w'.cell? ⟨gb103, 75, none⟩ = some (.int .u64 a0_75) ∧ w'.cell? ⟨gb103, 76, none⟩ = some (.int .u64 a0_76)) (ds := []) #[false, false, false, false, false, false] (by kernel_rfl) rfl rfl ⟨(blk_cell BK103.out 0).trans rfl, (blk_cell BK103.out 1).trans rfl, (blk_cell BK103.out 2).trans rfl, (blk_cell BK103.out 3).trans rfl, (blk_cell BK103.out 4).trans rfl, (blk_cell BK103.out 5).trans rfl, (blk_cell BK103.out 6).trans rfl, (blk_cell BK103.out 7).trans rfl, (blk_cell BK103.out 8).trans rfl, (blk_cell BK103.out 9).trans rfl, (blk_cell BK103.out 10).trans rfl, (blk_cell BK103.out 11).trans rfl, (blk_cell BK103.out 12).trans rfl, (blk_cell BK103.out 13).trans rfl, (blk_cell BK103.out 14).trans rfl, (blk_cell BK103.out 15).trans rfl, (blk_cell BK103.out 16).trans rfl, (blk_cell BK103.out 17).trans rfl, (blk_cell BK103.out 18).trans rfl, (blk_cell BK103.out 19).trans rfl, (blk_cell BK103.out 20).trans rfl, (blk_cell BK103.out 21).trans rfl, (blk_cell BK103.out 22).trans rfl, (blk_cell BK103.out 23).trans rfl, (blk_cell BK103.out 24).trans rfl, (blk_cell BK103.out 25).trans rfl, (blk_cell BK103.out 26).trans rfl, (blk_cell BK103.out 27).trans rfl, (blk_cell BK103.out 28).trans rfl, (blk_cell BK103.out 29).trans rfl, (blk_cell BK103.out 30).trans rfl, (blk_cell BK103.out 31).trans rfl, (blk_cell BK103.out 32).trans rfl, (blk_cell BK103.out 33).trans rfl, (blk_cell BK103.out 34).trans rfl, (blk_cell BK103.out 35).trans rfl, (blk_cell BK103.out 36).trans rfl, (blk_cell BK103.out 37).trans rfl, (blk_cell BK103.out 38).trans rfl, (blk_cell BK103.out 39).trans rfl, (blk_cell BK103.out 40).trans rfl, (blk_cell BK103.out 41).trans rfl, (blk_cell BK103.out 42).trans rfl, (blk_cell BK103.out 43).trans rfl, (blk_cell BK103.out 44).trans rfl, (blk_cell BK103.out 45).trans rfl, (blk_cell BK103.out 46).trans rfl, (blk_cell BK103.out 47).trans rfl, (blk_cell BK103.out 48).trans rfl, (blk_cell BK103.out 49).trans rfl, (blk_cell BK103.out 50).trans rfl, (blk_cell BK103.out 51).trans rfl, (blk_cell BK103.out 52).trans rfl, (blk_cell BK103.out 53).trans rfl, (blk_cell BK103.out 54).trans rfl, (blk_cell BK103.out 55).trans rfl, (blk_cell BK103.out 56).trans rfl, (blk_cell BK103.out 57).trans rfl, (blk_cell BK103.out 58).trans rfl, (blk_cell BK103.out 59).trans rfl, (blk_cell BK103.out 60).trans rfl, (blk_cell BK103.out 61).trans rfl, (blk_cell BK103.out 62).trans rfl, (blk_cell BK103.out 63).trans rfl, (blk_cell BK103.out 64).trans rfl, (blk_cell BK103.out 65).trans rfl, (blk_cell BK103.out 66).trans rfl, (blk_cell BK103.out 67).trans rfl, (blk_cell BK103.out 68).trans rfl, (blk_cell BK103.out 69).trans rfl, (blk_cell BK103.out 70).trans rfl, (blk_cell BK103.out 71).trans rfl, (blk_cell BK103.out 72).trans rfl, (blk_cell BK103.out 73).trans rfl, (blk_cell BK103.out 74).trans rfl, (blk_cell BK103.out 75).trans rfl, (blk_cell BK103.out 76).trans rfl⟩ (fun hHeld => ?_)
                      generalize wc.drew = w21 at BK103 HB hHeld ⊢
                      refine pure_ (i := 1) (N := some 38) (v := ?_) (a' := ?_) #[false, true, false, false, false, false] rfl rfl (by kernel_rfl) (fun _ _ _ h => h) (Or.inl ⟨by rfl, ?_⟩) ?_ ?_
                      rotate_left
                      · intro w'
                        go_simp
                        with_reducible rfl
                      rotate_left
                      · simp only [Act.put, List.setIfInBounds_toArray, List.set_cons_zero, List.set_cons_succ, i64_w, i32_w]
                        rfl
                      refine pure_ (i := 2) (N := some 39) (v := ?_) (a' := ?_) #[false, true, true, false, false, false] rfl rfl (by kernel_rfl) (fun _ _ _ h => h) (Or.inl ⟨by rfl, ?_⟩) ?_ ?_
                      rotate_left
                      · intro w'
                        go_simp
                        with_reducible rfl
                      rotate_left
                      · simp only [Act.put, List.setIfInBounds_toArray, List.set_cons_zero, List.set_cons_succ, i64_w, i32_w]
                        rfl
                      refine pure_ (i := 3) (N := some 40) (v := ?_) (a' := ?_) #[false, true, true, true, false, false] rfl rfl (by kernel_rfl) (fun _ _ _ h => h) (Or.inl ⟨by rfl, ?_⟩) ?_ ?_
                      rotate_left
                      · intro w'
                        go_simp
                        with_reducible rfl
                      rotate_left
                      · simp only [Act.put, List.setIfInBounds_toArray, List.set_cons_zero, List.set_cons_succ, i64_w, i32_w]
                        rfl
                      refine take_ (i := 0) (N := some 37) (v := ?_) (a' := ?_) #[true, true, true, true, false, false] rfl rfl (by kernel_rfl) (fun _ _ _ h => h) (Or.inl ⟨by rfl, ?_⟩) hHeld ?_ ?_
                      rotate_left
                      · rintro w' ⟨s0, s1, s2, s3, s4, s5, s6, s7, s8, s9, s10, s11, s12, s13, s14, s15, s16, s17, s18, s19, s20, s21, s22, s23, s24, s25, s26, s27, s28, s29, s30, s31, s32, s33, s34, s35, s36, s37, s38, s39, s40, s41, s42, s43, s44, s45, s46, s47, s48, s49, s50, s51, s52, s53, s54, s55, s56, s57, s58, s59, s60, s61, s62, s63, s64, s65, s66, s67, s68, s69, s70, s71, s72, s73, s74, s75, s76⟩
                        first | (have hcs_ : CellsAnd w' gb103 0 ((.int .u64 a0_0) :: (.int .u64 a0_1) :: (.int .u64 a0_2) :: (.int .u64 a0_3) :: (.int .u64 a0_4) :: (.int .u64 a0_5) :: (.int .u64 a0_6) :: (.int .u64 a0_7) :: (.int .u64 a0_8) :: (.int .u64 a0_9) :: (.int .u64 a0_10) :: (.int .u64 a0_11) :: (.int .u64 a0_12) :: (.int .u64 a0_13) :: (.int .u64 a0_14) :: (.int .u64 a0_15) :: (.int .u64 a0_16) :: (.int .u64 a0_17) :: (.int .u64 a0_18) :: (.int .u64 a0_19) :: (.int .u64 a0_20) :: (.int .u64 a0_21) :: (.int .u64 a0_22) :: (.int .u64 a0_23) :: (.int .u64 a0_24) :: (.int .u64 a0_25) :: (.int .u64 a0_26) :: (.int .u64 a0_27) :: (.int .u64 a0_28) :: (.int .u64 a0_29) :: (.int .u64 a0_30) :: (.int .u64 a0_31) :: (.int .u64 a0_32) :: (.int .u8 a0_33) :: (.bool a0_34) :: (.bool a0_35) :: (.bool a0_36) :: (.int .u64 a0_37) :: (.int .u64 a0_38) :: (.int .u64 a0_39) :: (.int .u64 a0_40) :: (.int .u64 a0_41) :: (.int .u64 a0_42) :: (.int .u64 a0_43) :: (.int .u64 a0_44) :: (.int .u64 a0_45) :: (.int .u64 a0_46) :: (.int .u64 a0_47) :: (.int .u64 a0_48) :: (.int .u64 a0_49) :: (.int .u64 a0_50) :: (.int .u64 a0_51) :: (.int .u64 a0_52) :: (.int .u64 a0_53) :: (.int .u64 a0_54) :: (.int .u64 a0_55) :: (.int .u64 a0_56) :: (.int .u64 a0_57) :: (.int .u64 a0_58) :: (.int .u64 a0_59) :: (.int .u64 a0_60) :: (.int .u64 a0_61) :: (.int .u64 a0_62) :: (.int .u64 a0_63) :: (.int .u64 a0_64) :: (.int .u64 a0_65) :: (.int .u64 a0_66) :: (.int .u64 a0_67) :: (.int .u64 a0_68) :: (.int .u64 a0_69) :: (.int .u64 a0_70) :: (.int .u64 a0_71) :: (.int .u64 a0_72) :: (.int .u64 a0_73) :: (.int .u64 a0_74) :: (.int .u64 a0_75) :: (.int .u64 a0_76) :: [] : List Value) := ⟨s0, s1, s2, s3, s4, s5, s6, s7, s8, s9, s10, s11, s12, s13, s14, s15, s16, s17, s18, s19, s20, s21, s22, s23, s24, s25, s26, s27, s28, s29, s30, s31, s32, s33, s34, s35, s36, s37, s38, s39, s40, s41, s42, s43, s44, s45, s46, s47, s48, s49, s50, s51, s52, s53, s54, s55, s56, s57, s58, s59, s60, s61, s62, s63, s64, s65, s66, s67, s68, s69, s70, s71, s72, s73, s74, s75, s76⟩; refine exec_load_cells (x := ?x_) (g := gb103) ?ho_ ?hx_ _ hu30 rfl (by kernel_rfl) hcs_; (case ho_ => exact rfl); (case hx_ => exact rfl)) | (go_simp; with_reducible rfl)
                      rotate_left
                      · simp only [Act.put, List.setIfInBounds_toArray, List.set_cons_zero, List.set_cons_succ, i64_w, i32_w]
                        rfl
                      refine one_ (i := 4) (N := some 41) #[true, true, true, true, true, false] rfl rfl (by kernel_rfl) (by decide) (fun K hK => ?_)
                      refine goes_ Tryd.func20 (by kernel_rfl) rfl #[.agg #[.int .u64 a0_0, .int .u64 a0_1, .int .u64 a0_2, .int .u64 a0_3, .int .u64 a0_4, .int .u64 a0_5, .int .u64 a0_6, .int .u64 a0_7, .int .u64 a0_8, .int .u64 a0_9, .int .u64 a0_10, .int .u64 a0_11, .int .u64 a0_12, .int .u64 a0_13, .int .u64 a0_14, .int .u64 a0_15, .int .u64 a0_16, .int .u64 a0_17, .int .u64 a0_18, .int .u64 a0_19, .int .u64 a0_20, .int .u64 a0_21, .int .u64 a0_22, .int .u64 a0_23, .int .u64 a0_24, .int .u64 a0_25, .int .u64 a0_26, .int .u64 a0_27, .int .u64 a0_28, .int .u64 a0_29, .int .u64 a0_30, .int .u64 a0_31, .int .u64 a0_32, .int .u8 a0_33, .bool a0_34, .bool a0_35, .bool a0_36, .int .u64 a0_37, .int .u64 a0_38, .int .u64 a0_39, .int .u64 a0_40, .int .u64 a0_41, .int .u64 a0_42, .int .u64 a0_43, .int .u64 a0_44, .int .u64 a0_45, .int .u64 a0_46, .int .u64 a0_47, .int .u64 a0_48, .int .u64 a0_49, .int .u64 a0_50, .int .u64 a0_51, .int .u64 a0_52, .int .u64 a0_53, .int .u64 a0_54, .int .u64 a0_55, .int .u64 a0_56, .int .u64 a0_57, .int .u64 a0_58, .int .u64 a0_59, .int .u64 a0_60, .int .u64 a0_61, .int .u64 a0_62, .int .u64 a0_63, .int .u64 a0_64, .int .u64 a0_65, .int .u64 a0_66, .int .u64 a0_67, .int .u64 a0_68, .int .u64 a0_69, .int .u64 a0_70, .int .u64 a0_71, .int .u64 a0_72, .int .u64 a0_73, .int .u64 a0_74, .int .u64 a0_75, .int .u64 a0_76], .int .u64 ji19] (by rfl) rfl rfl (by (try simp only [List.map_toArray, List.map_cons, List.map_nil]); first | done | (simp only [hji19]; rfl) | rfl | (simp only [List.length_drop, List.length_take]; rfl)) ?_
                      with_reducible refine (csrno_counter.calls kj14 a0_0 a0_1 a0_2 a0_3 a0_4 a0_5 a0_6 a0_7 a0_8 a0_9 a0_10 a0_11 a0_12 a0_13 a0_14 a0_15 a0_16 a0_17 a0_18 a0_19 a0_20 a0_21 a0_22 a0_23 a0_24 a0_25 a0_26 a0_27 a0_28 a0_29 a0_30 a0_31 a0_32 a0_33 a0_34 a0_35 a0_36 a0_37 a0_38 a0_39 a0_40 a0_41 a0_42 a0_43 a0_44 a0_45 a0_46 a0_47 a0_48 a0_49 a0_50 a0_51 a0_52 a0_53 a0_54 a0_55 a0_56 a0_57 a0_58 a0_59 a0_60 a0_61 a0_62 a0_63 a0_64 a0_65 a0_66 a0_67 a0_68 a0_69 a0_70 a0_71 a0_72 a0_73 a0_74 a0_75 a0_76 ji19 t105 _ A20.out).mono ?_
                      rintro e w22 ⟨rfl, hb⟩
                      refine ⟨_, rfl, ?_⟩
                      have n0_ := Aside0.mk (blk_below (g := gb103) (o := .cells #[.int .u64 a0_0, .int .u64 a0_1, .int .u64 a0_2, .int .u64 a0_3, .int .u64 a0_4, .int .u64 a0_5, .int .u64 a0_6, .int .u64 a0_7, .int .u64 a0_8, .int .u64 a0_9, .int .u64 a0_10, .int .u64 a0_11, .int .u64 a0_12, .int .u64 a0_13, .int .u64 a0_14, .int .u64 a0_15, .int .u64 a0_16, .int .u64 a0_17, .int .u64 a0_18, .int .u64 a0_19, .int .u64 a0_20, .int .u64 a0_21, .int .u64 a0_22, .int .u64 a0_23, .int .u64 a0_24, .int .u64 a0_25, .int .u64 a0_26, .int .u64 a0_27, .int .u64 a0_28, .int .u64 a0_29, .int .u64 a0_30, .int .u64 a0_31, .int .u64 a0_32, .int .u8 a0_33, .bool a0_34, .bool a0_35, .bool a0_36, .int .u64 a0_37, .int .u64 a0_38, .int .u64 a0_39, .int .u64 a0_40, .int .u64 a0_41, .int .u64 a0_42, .int .u64 a0_43, .int .u64 a0_44, .int .u64 a0_45, .int .u64 a0_46, .int .u64 a0_47, .int .u64 a0_48, .int .u64 a0_49, .int .u64 a0_50, .int .u64 a0_51, .int .u64 a0_52, .int .u64 a0_53, .int .u64 a0_54, .int .u64 a0_55, .int .u64 a0_56, .int .u64 a0_57, .int .u64 a0_58, .int .u64 a0_59, .int .u64 a0_60, .int .u64 a0_61, .int .u64 a0_62, .int .u64 a0_63, .int .u64 a0_64, .int .u64 a0_65, .int .u64 a0_66, .int .u64 a0_67, .int .u64 a0_68, .int .u64 a0_69, .int .u64 a0_70, .int .u64 a0_71, .int .u64 a0_72, .int .u64 a0_73, .int .u64 a0_74, .int .u64 a0_75, .int .u64 a0_76] 30 (0, 0)) (by (with_reducible repeat (first | refine blk_drewN ?_ _ | refine blk_drew ?_ | refine blk_alloc ?_ _)); exact BK103.out) hb)
                      have n1_ := Aside0.mk (below_step (by repeat (first | (with_reducible first | exact HB.out | apply below_alloc | apply pw_below_drewN | apply below_drew1 | refine below_set ?_ GE103.out) | exact HB.out)) hb)
                      clear BK103
                      clear HB
                      have BK103 := n0_
                      have HB := n1_
                      clear n0_ n1_
                      (try clear hb)
                      (try clear hb2)
                      (try clear hk)
                      (try clear hi)
                      refine hK.out _ _ ⟨(blk_cell BK103.out 0).trans rfl, (blk_cell BK103.out 1).trans rfl, (blk_cell BK103.out 2).trans rfl, (blk_cell BK103.out 3).trans rfl, (blk_cell BK103.out 4).trans rfl, (blk_cell BK103.out 5).trans rfl, (blk_cell BK103.out 6).trans rfl, (blk_cell BK103.out 7).trans rfl, (blk_cell BK103.out 8).trans rfl, (blk_cell BK103.out 9).trans rfl, (blk_cell BK103.out 10).trans rfl, (blk_cell BK103.out 11).trans rfl, (blk_cell BK103.out 12).trans rfl, (blk_cell BK103.out 13).trans rfl, (blk_cell BK103.out 14).trans rfl, (blk_cell BK103.out 15).trans rfl, (blk_cell BK103.out 16).trans rfl, (blk_cell BK103.out 17).trans rfl, (blk_cell BK103.out 18).trans rfl, (blk_cell BK103.out 19).trans rfl, (blk_cell BK103.out 20).trans rfl, (blk_cell BK103.out 21).trans rfl, (blk_cell BK103.out 22).trans rfl, (blk_cell BK103.out 23).trans rfl, (blk_cell BK103.out 24).trans rfl, (blk_cell BK103.out 25).trans rfl, (blk_cell BK103.out 26).trans rfl, (blk_cell BK103.out 27).trans rfl, (blk_cell BK103.out 28).trans rfl, (blk_cell BK103.out 29).trans rfl, (blk_cell BK103.out 30).trans rfl, (blk_cell BK103.out 31).trans rfl, (blk_cell BK103.out 32).trans rfl, (blk_cell BK103.out 33).trans rfl, (blk_cell BK103.out 34).trans rfl, (blk_cell BK103.out 35).trans rfl, (blk_cell BK103.out 36).trans rfl, (blk_cell BK103.out 37).trans rfl, (blk_cell BK103.out 38).trans rfl, (blk_cell BK103.out 39).trans rfl, (blk_cell BK103.out 40).trans rfl, (blk_cell BK103.out 41).trans rfl, (blk_cell BK103.out 42).trans rfl, (blk_cell BK103.out 43).trans rfl, (blk_cell BK103.out 44).trans rfl, (blk_cell BK103.out 45).trans rfl, (blk_cell BK103.out 46).trans rfl, (blk_cell BK103.out 47).trans rfl, (blk_cell BK103.out 48).trans rfl, (blk_cell BK103.out 49).trans rfl, (blk_cell BK103.out 50).trans rfl, (blk_cell BK103.out 51).trans rfl, (blk_cell BK103.out 52).trans rfl, (blk_cell BK103.out 53).trans rfl, (blk_cell BK103.out 54).trans rfl, (blk_cell BK103.out 55).trans rfl, (blk_cell BK103.out 56).trans rfl, (blk_cell BK103.out 57).trans rfl, (blk_cell BK103.out 58).trans rfl, (blk_cell BK103.out 59).trans rfl, (blk_cell BK103.out 60).trans rfl, (blk_cell BK103.out 61).trans rfl, (blk_cell BK103.out 62).trans rfl, (blk_cell BK103.out 63).trans rfl, (blk_cell BK103.out 64).trans rfl, (blk_cell BK103.out 65).trans rfl, (blk_cell BK103.out 66).trans rfl, (blk_cell BK103.out 67).trans rfl, (blk_cell BK103.out 68).trans rfl, (blk_cell BK103.out 69).trans rfl, (blk_cell BK103.out 70).trans rfl, (blk_cell BK103.out 71).trans rfl, (blk_cell BK103.out 72).trans rfl, (blk_cell BK103.out 73).trans rfl, (blk_cell BK103.out 74).trans rfl, (blk_cell BK103.out 75).trans rfl, (blk_cell BK103.out 76).trans rfl⟩ (fun hHeld => ?_)
                      clear hK K
                      refine norm_ (a' := ?_) ?_ ?_
                      rotate_left
                      · show Act.put _ (some 41) _ = _
                        simp only [Act.put, List.setIfInBounds_toArray, List.set_cons_zero, List.set_cons_succ, i64_w, i32_w]
                        rfl
                      refine pure_ (i := 5) (N := some 6) (v := ?_) (a' := ?_) #[true, true, true, true, true, true] rfl rfl (by kernel_rfl) (fun _ _ _ h => h) (Or.inl ⟨by rfl, ?_⟩) ?_ ?_
                      rotate_left
                      · intro w'
                        go_simp
                        with_reducible rfl
                      rotate_left
                      · simp only [Act.put, List.setIfInBounds_toArray, List.set_cons_zero, List.set_cons_succ, i64_w, i32_w]
                        rfl
                      refine done_ (by kernel_rfl) ?_
                      try go_wp2
                      go_ret
                      exact ⟨by first | rfl | (simp [errW_none, errW_some] <;> rfl) | (simp only [← hji19]; first | rfl | (simp [errW_none, errW_some] <;> rfl)) | (simp [*, errW_none, errW_some] <;> rfl), by repeat (first | (with_reducible first | exact HB.out | apply below_alloc | apply pw_below_drewN | apply below_drew1 | refine below_set ?_ GE103.out) | exact HB.out)⟩
                    · rw [if_neg c18] at H
                      exact absurd H (by simp)
                  · replace c17 := Bool.eq_false_iff.mpr c17
                    subst c17
                    have H1 : (if (Go.bits .and .i64 (a1 / 256) 3) = 3 then (csrno_Check.j3 kj14 a1 (Go.bits .and .i64 (a1 / 256) 3) true a0_0 a0_1 a0_2 a0_3 a0_4 a0_5 a0_6 a0_7 a0_8 a0_9 a0_10 a0_11 a0_12 a0_13 a0_14 a0_15 a0_16 a0_17 a0_18 a0_19 a0_20 a0_21 a0_22 a0_23 a0_24 a0_25 a0_26 a0_27 a0_28 a0_29 a0_30 a0_31 a0_32 a0_33 a0_34 a0_35 a0_36 a0_37 a0_38 a0_39 a0_40 a0_41 a0_42 a0_43 a0_44 a0_45 a0_46 a0_47 a0_48 a0_49 a0_50 a0_51 a0_52 a0_53 a0_54 a0_55 a0_56 a0_57 a0_58 a0_59 a0_60 a0_61 a0_62 a0_63 a0_64 a0_65 a0_66 a0_67 a0_68 a0_69 a0_70 a0_71 a0_72 a0_73 a0_74 a0_75 a0_76) else (csrno_Check.j3 kj14 a1 (Go.bits .and .i64 (a1 / 256) 3) ((Go.bits .and .i64 (a1 / 256) 3) == 0) a0_0 a0_1 a0_2 a0_3 a0_4 a0_5 a0_6 a0_7 a0_8 a0_9 a0_10 a0_11 a0_12 a0_13 a0_14 a0_15 a0_16 a0_17 a0_18 a0_19 a0_20 a0_21 a0_22 a0_23 a0_24 a0_25 a0_26 a0_27 a0_28 a0_29 a0_30 a0_31 a0_32 a0_33 a0_34 a0_35 a0_36 a0_37 a0_38 a0_39 a0_40 a0_41 a0_42 a0_43 a0_44 a0_45 a0_46 a0_47 a0_48 a0_49 a0_50 a0_51 a0_52 a0_53 a0_54 a0_55 a0_56 a0_57 a0_58 a0_59 a0_60 a0_61 a0_62 a0_63 a0_64 a0_65 a0_66 a0_67 a0_68 a0_69 a0_70 a0_71 a0_72 a0_73 a0_74 a0_75 a0_76)) = some r := by rw [if_neg (show ¬ (false = true) by decide)] at H; exact H
                    clear H
                    have H := H1
                    clear H1
                    have HC23 := Aside0.mk H
                    clear H
                    go_upto_region 8 with (fail)
                    go_cut [42] (fun v42 wc => ∃ (kq : Nat) (x42_22 : Bool), v42 = .bool x42_22 ∧ Aside0 (csrno_Check.j3 kq a1 (Go.bits .and .i64 (a1 / 256) 3) x42_22 a0_0 a0_1 a0_2 a0_3 a0_4 a0_5 a0_6 a0_7 a0_8 a0_9 a0_10 a0_11 a0_12 a0_13 a0_14 a0_15 a0_16 a0_17 a0_18 a0_19 a0_20 a0_21 a0_22 a0_23 a0_24 a0_25 a0_26 a0_27 a0_28 a0_29 a0_30 a0_31 a0_32 a0_33 a0_34 a0_35 a0_36 a0_37 a0_38 a0_39 a0_40 a0_41 a0_42 a0_43 a0_44 a0_45 a0_46 a0_47 a0_48 a0_49 a0_50 a0_51 a0_52 a0_53 a0_54 a0_55 a0_56 a0_57 a0_58 a0_59 a0_60 a0_61 a0_62 a0_63 a0_64 a0_65 a0_66 a0_67 a0_68 a0_69 a0_70 a0_71 a0_72 a0_73 a0_74 a0_75 a0_76 = some r) ∧ Aside0 (kq ≤ kj14) ∧ Aside0 (wc.heap[gb103]? = some (.cells #[.int .u64 a0_0, .int .u64 a0_1, .int .u64 a0_2, .int .u64 a0_3, .int .u64 a0_4, .int .u64 a0_5, .int .u64 a0_6, .int .u64 a0_7, .int .u64 a0_8, .int .u64 a0_9, .int .u64 a0_10, .int .u64 a0_11, .int .u64 a0_12, .int .u64 a0_13, .int .u64 a0_14, .int .u64 a0_15, .int .u64 a0_16, .int .u64 a0_17, .int .u64 a0_18, .int .u64 a0_19, .int .u64 a0_20, .int .u64 a0_21, .int .u64 a0_22, .int .u64 a0_23, .int .u64 a0_24, .int .u64 a0_25, .int .u64 a0_26, .int .u64 a0_27, .int .u64 a0_28, .int .u64 a0_29, .int .u64 a0_30, .int .u64 a0_31, .int .u64 a0_32, .int .u8 a0_33, .bool a0_34, .bool a0_35, .bool a0_36, .int .u64 a0_37, .int .u64 a0_38, .int .u64 a0_39, .int .u64 a0_40, .int .u64 a0_41, .int .u64 a0_42, .int .u64 a0_43, .int .u64 a0_44, .int .u64 a0_45, .int .u64 a0_46, .int .u64 a0_47, .int .u64 a0_48, .int .u64 a0_49, .int .u64 a0_50, .int .u64 a0_51, .int .u64 a0_52, .int .u64 a0_53, .int .u64 a0_54, .int .u64 a0_55, .int .u64 a0_56, .int .u64 a0_57, .int .u64 a0_58, .int .u64 a0_59, .int .u64 a0_60, .int .u64 a0_61, .int .u64 a0_62, .int .u64 a0_63, .int .u64 a0_64, .int .u64 a0_65, .int .u64 a0_66, .int .u64 a0_67, .int .u64 a0_68, .int .u64 a0_69, .int .u64 a0_70, .int .u64 a0_71, .int .u64 a0_72, .int .u64 a0_73, .int .u64 a0_74, .int .u64 a0_75, .int .u64 a0_76] 30 (0, 0))) ∧ Aside0 (Below w.heap.size w wc))
                    case first =>
                      have H := HC23.out
                      clear HC23
                      by_cases c24 : (Go.bits .and .i64 (a1 / 256) 3) = 3
                      · rw [if_pos c24] at H
                        have c24b0 : ((Go.bits .and .i64 (a1 / 256) 3) == 3) = true := beq_iff_eq.mpr c24
                        have c24b1 : ((Go.bits .and .i64 (a1 / 256) 3) != 3) = false := bne_eq_false_iff_eq.mpr c24
                        clear c24
                        (first | rw [c24b0] | (simp only [i64_w, i32_w]; rw [c24b0]) | skip)
                        have H' := Aside0.mk H
                        clear H
                        go_wp2
                        go_meet
                        case rel => exact ⟨_, (true), (by first | rfl | (simp; done) | (simp [*]; done)), H', ⟨by have := HJ3.out; have := HJ9.out; have := HJ14.out; first | omega | exact Nat.le_refl _⟩, ⟨by (with_reducible repeat (first | refine blk_drewN ?_ _ | refine blk_drew ?_ | refine blk_alloc ?_ _)); exact BK103.out⟩, ⟨by repeat (first | (with_reducible first | exact HB.out | apply below_alloc | apply pw_below_drewN | apply below_drew1 | refine below_set ?_ GE103.out) | exact HB.out)⟩⟩
                      · rw [if_neg c24] at H
                        have c24b0 : ((Go.bits .and .i64 (a1 / 256) 3) == 3) = false := beq_eq_false_iff_ne.mpr c24
                        have c24b1 : ((Go.bits .and .i64 (a1 / 256) 3) != 3) = true := bne_iff_ne.mpr c24
                        (first | rw [c24b0] | (simp only [i64_w, i32_w]; rw [c24b0]) | skip)
                        have H' := Aside0.mk H
                        clear H
                        go_wp2
                        go_meet
                        case rel => exact ⟨_, (((Go.bits .and .i64 (a1 / 256) 3) == 0)), (by first | rfl | (simp; done) | (simp [*]; done)), H', ⟨by have := HJ3.out; have := HJ9.out; have := HJ14.out; first | omega | exact Nat.le_refl _⟩, ⟨by (with_reducible repeat (first | refine blk_drewN ?_ _ | refine blk_drew ?_ | refine blk_alloc ?_ _)); exact BK103.out⟩, ⟨by repeat (first | (with_reducible first | exact HB.out | apply below_alloc | apply pw_below_drewN | apply below_drew1 | refine below_set ?_ GE103.out) | exact HB.out)⟩⟩
                    case rest =>
                      clear HC23
                      try clear c1
                      try clear c2
                      try clear p2
                      try clear c7
                      try clear c8
                      try clear c9
                      try clear c11
                      try clear c11b0
                      try clear c11b1
                      try clear c12
                      try clear c14
                      try clear c15
                      try clear c16
                      try clear c16b0
                      try clear c17
                      try clear c18
                      try clear c18b0
                      try clear c18b1
                      try clear c20
                      try clear c24
                      try clear c24b0
                      try clear c24b1
                      try clear hcz12_33
                      try clear hcz12_34
                      try clear hcz12_38
                      try clear hcz12_58
                      try clear hcz13_33
                      try clear hcz13_34
                      try clear hcz13_38
                      try clear hcz13_58
                      try clear hfz12_33
                      try clear hfz12_34
                      try clear hfz12_38
                      try clear hfz12_58
                      try clear hfz13_33
                      try clear hfz13_34
                      try clear hfz13_38
                      try clear hfz13_58
                      try clear p2
                      obtain ⟨kq, x42_22, rfl, HA, HJ22, BK103, HB⟩ := hcut
                      cases kq with
                      | zero => exact absurd HA.out (by simp [csrno_Check.j3])
                      | succ kj22 =>
                        have H := HA.out
                        clear HA
                        simp only [csrno_Check.j3] at H
                        by_cases c25 : x42_22 = true
                        · subst c25
                          have H1 : (some 2) = some r := by rw [if_pos rfl] at H; exact H
                          clear H
                          have H := H1
                          clear H1
                          obtain rfl := Option.some.inj H
                          go_wp2
                          go_ret
                          exact ⟨by first | rfl | (simp [errW_none, errW_some] <;> rfl) | (simp [*, errW_none, errW_some] <;> rfl), by repeat (first | (with_reducible first | exact HB.out | apply below_alloc | apply pw_below_drewN | apply below_drew1 | refine below_set ?_ GE103.out) | exact HB.out)⟩
                        · replace c25 := Bool.eq_false_iff.mpr c25
                          subst c25
                          have H1 : (if a0_34 = true then (if a0_33 = 0 then (some 22) else (if (Go.bits .and .i64 (a1 / 256) 3) = 2 then (some 22) else (if a1 = 384 then (if (Go.bits .and .u64 a0_58 1048576) = 0 then (some 0) else (some 22)) else (some 0)))) else (if a0_33 = 0 then (some 2) else (if a1 = 384 then (if (Go.bits .and .u64 a0_38 1048576) = 0 then (some 0) else (some 2)) else (if a1 = 1664 then (if (Go.bits .and .u64 a0_38 1048576) = 0 then (some 0) else (some 2)) else (some 0))))) = some r := by rw [if_neg (show ¬ (false = true) by decide)] at H; exact H
                          clear H
                          have H := H1
                          clear H1
                          by_cases c26 : a0_34 = true
                          · subst c26
                            have H1 : (if a0_33 = 0 then (some 22) else (if (Go.bits .and .i64 (a1 / 256) 3) = 2 then (some 22) else (if a1 = 384 then (if (Go.bits .and .u64 a0_58 1048576) = 0 then (some 0) else (some 22)) else (some 0)))) = some r := by rw [if_pos rfl] at H; exact H
                            clear H
                            have H := H1
                            clear H1
                            by_cases c27 : a0_33 = 0
                            · rw [if_pos c27] at H
                              have c27b0 : (a0_33 == 0) = true := beq_iff_eq.mpr c27
                              have c27b1 : (a0_33 != 0) = false := bne_eq_false_iff_eq.mpr c27
                              clear c27
                              obtain rfl := Option.some.inj H
                              have hcz28_33 : wc.cell? ⟨gb103, 33, none⟩ = some (.int .u8 a0_33) := (blk_cell BK103.out 33).trans rfl
                              have hcz28_34 : wc.cell? ⟨gb103, 34, none⟩ = some (.bool true) := (blk_cell BK103.out 34).trans rfl
                              have hcz28_38 : wc.cell? ⟨gb103, 38, none⟩ = some (.int .u64 a0_38) := (blk_cell BK103.out 38).trans rfl
                              have hcz28_58 : wc.cell? ⟨gb103, 58, none⟩ = some (.int .u64 a0_58) := (blk_cell BK103.out 58).trans rfl
                              have hfz28_33 := blk_frozen BK103.out 33
                              have hfz28_34 := blk_frozen BK103.out 34
                              have hfz28_38 := blk_frozen BK103.out 38
                              have hfz28_58 := blk_frozen BK103.out 58
                              go_wp2
                              go_ret
                              exact ⟨by first | rfl | (simp [errW_none, errW_some] <;> rfl) | (simp [*, errW_none, errW_some] <;> rfl), by repeat (first | (with_reducible first | exact HB.out | apply below_alloc | apply pw_below_drewN | apply below_drew1 | refine below_set ?_ GE103.out) | exact HB.out)⟩
                            · rw [if_neg c27] at H
                              have c27b0 : (a0_33 == 0) = false := beq_eq_false_iff_ne.mpr c27
                              have c27b1 : (a0_33 != 0) = true := bne_iff_ne.mpr c27
                              by_cases c29 : (Go.bits .and .i64 (a1 / 256) 3) = 2
                              · rw [if_pos c29] at H
                                have c29b0 : ((Go.bits .and .i64 (a1 / 256) 3) == 2) = true := beq_iff_eq.mpr c29
                                have c29b1 : ((Go.bits .and .i64 (a1 / 256) 3) != 2) = false := bne_eq_false_iff_eq.mpr c29
                                clear c29
                                obtain rfl := Option.some.inj H
                                have hcz30_33 : wc.cell? ⟨gb103, 33, none⟩ = some (.int .u8 a0_33) := (blk_cell BK103.out 33).trans rfl
                                have hcz30_34 : wc.cell? ⟨gb103, 34, none⟩ = some (.bool true) := (blk_cell BK103.out 34).trans rfl
                                have hcz30_38 : wc.cell? ⟨gb103, 38, none⟩ = some (.int .u64 a0_38) := (blk_cell BK103.out 38).trans rfl
                                have hcz30_58 : wc.cell? ⟨gb103, 58, none⟩ = some (.int .u64 a0_58) := (blk_cell BK103.out 58).trans rfl
                                have hfz30_33 := blk_frozen BK103.out 33
                                have hfz30_34 := blk_frozen BK103.out 34
                                have hfz30_38 := blk_frozen BK103.out 38
                                have hfz30_58 := blk_frozen BK103.out 58
                                go_wp2
                                go_ret
                                exact ⟨by first | rfl | (simp [errW_none, errW_some] <;> rfl) | (simp [*, errW_none, errW_some] <;> rfl), by repeat (first | (with_reducible first | exact HB.out | apply below_alloc | apply pw_below_drewN | apply below_drew1 | refine below_set ?_ GE103.out) | exact HB.out)⟩
                              · rw [if_neg c29] at H
                                have c29b0 : ((Go.bits .and .i64 (a1 / 256) 3) == 2) = false := beq_eq_false_iff_ne.mpr c29
                                have c29b1 : ((Go.bits .and .i64 (a1 / 256) 3) != 2) = true := bne_iff_ne.mpr c29
                                by_cases c31 : a1 = 384
                                · rw [if_pos c31] at H
                                  have c31b0 : (a1 == 384) = true := beq_iff_eq.mpr c31
                                  have c31b1 : (a1 != 384) = false := bne_eq_false_iff_eq.mpr c31
                                  clear c31
                                  by_cases c32 : (Go.bits .and .u64 a0_58 1048576) = 0
                                  · rw [if_pos c32] at H
                                    have c32b0 : ((Go.bits .and .u64 a0_58 1048576) == 0) = true := beq_iff_eq.mpr c32
                                    have c32b1 : ((Go.bits .and .u64 a0_58 1048576) != 0) = false := bne_eq_false_iff_eq.mpr c32
                                    clear c32
                                    obtain rfl := Option.some.inj H
                                    have hcz33_33 : wc.cell? ⟨gb103, 33, none⟩ = some (.int .u8 a0_33) := (blk_cell BK103.out 33).trans rfl
                                    have hcz33_34 : wc.cell? ⟨gb103, 34, none⟩ = some (.bool true) := (blk_cell BK103.out 34).trans rfl
                                    have hcz33_38 : wc.cell? ⟨gb103, 38, none⟩ = some (.int .u64 a0_38) := (blk_cell BK103.out 38).trans rfl
                                    have hcz33_58 : wc.cell? ⟨gb103, 58, none⟩ = some (.int .u64 a0_58) := (blk_cell BK103.out 58).trans rfl
                                    have hfz33_33 := blk_frozen BK103.out 33
                                    have hfz33_34 := blk_frozen BK103.out 34
                                    have hfz33_38 := blk_frozen BK103.out 38
                                    have hfz33_58 := blk_frozen BK103.out 58
                                    go_wp2
                                    go_ret
                                    exact ⟨by first | rfl | (simp [errW_none, errW_some] <;> rfl) | (simp [*, errW_none, errW_some] <;> rfl), by repeat (first | (with_reducible first | exact HB.out | apply below_alloc | apply pw_below_drewN | apply below_drew1 | refine below_set ?_ GE103.out) | exact HB.out)⟩
                                  · rw [if_neg c32] at H
                                    have c32b0 : ((Go.bits .and .u64 a0_58 1048576) == 0) = false := beq_eq_false_iff_ne.mpr c32
                                    have c32b1 : ((Go.bits .and .u64 a0_58 1048576) != 0) = true := bne_iff_ne.mpr c32
                                    obtain rfl := Option.some.inj H
                                    have hcz34_33 : wc.cell? ⟨gb103, 33, none⟩ = some (.int .u8 a0_33) := (blk_cell BK103.out 33).trans rfl
                                    have hcz34_34 : wc.cell? ⟨gb103, 34, none⟩ = some (.bool true) := (blk_cell BK103.out 34).trans rfl
                                    have hcz34_38 : wc.cell? ⟨gb103, 38, none⟩ = some (.int .u64 a0_38) := (blk_cell BK103.out 38).trans rfl
                                    have hcz34_58 : wc.cell? ⟨gb103, 58, none⟩ = some (.int .u64 a0_58) := (blk_cell BK103.out 58).trans rfl
                                    have hfz34_33 := blk_frozen BK103.out 33
                                    have hfz34_34 := blk_frozen BK103.out 34
                                    have hfz34_38 := blk_frozen BK103.out 38
                                    have hfz34_58 := blk_frozen BK103.out 58
                                    go_wp2
                                    go_ret
                                    exact ⟨by first | rfl | (simp [errW_none, errW_some] <;> rfl) | (simp [*, errW_none, errW_some] <;> rfl), by repeat (first | (with_reducible first | exact HB.out | apply below_alloc | apply pw_below_drewN | apply below_drew1 | refine below_set ?_ GE103.out) | exact HB.out)⟩
                                · rw [if_neg c31] at H
                                  have c31b0 : (a1 == 384) = false := beq_eq_false_iff_ne.mpr c31
                                  have c31b1 : (a1 != 384) = true := bne_iff_ne.mpr c31
                                  obtain rfl := Option.some.inj H
                                  have hcz35_33 : wc.cell? ⟨gb103, 33, none⟩ = some (.int .u8 a0_33) := (blk_cell BK103.out 33).trans rfl
                                  have hcz35_34 : wc.cell? ⟨gb103, 34, none⟩ = some (.bool true) := (blk_cell BK103.out 34).trans rfl
                                  have hcz35_38 : wc.cell? ⟨gb103, 38, none⟩ = some (.int .u64 a0_38) := (blk_cell BK103.out 38).trans rfl
                                  have hcz35_58 : wc.cell? ⟨gb103, 58, none⟩ = some (.int .u64 a0_58) := (blk_cell BK103.out 58).trans rfl
                                  have hfz35_33 := blk_frozen BK103.out 33
                                  have hfz35_34 := blk_frozen BK103.out 34
                                  have hfz35_38 := blk_frozen BK103.out 38
                                  have hfz35_58 := blk_frozen BK103.out 58
                                  go_wp2
                                  go_ret
                                  exact ⟨by first | rfl | (simp [errW_none, errW_some] <;> rfl) | (simp [*, errW_none, errW_some] <;> rfl), by repeat (first | (with_reducible first | exact HB.out | apply below_alloc | apply pw_below_drewN | apply below_drew1 | refine below_set ?_ GE103.out) | exact HB.out)⟩
                          · replace c26 := Bool.eq_false_iff.mpr c26
                            subst c26
                            have H1 : (if a0_33 = 0 then (some 2) else (if a1 = 384 then (if (Go.bits .and .u64 a0_38 1048576) = 0 then (some 0) else (some 2)) else (if a1 = 1664 then (if (Go.bits .and .u64 a0_38 1048576) = 0 then (some 0) else (some 2)) else (some 0)))) = some r := by rw [if_neg (show ¬ (false = true) by decide)] at H; exact H
                            clear H
                            have H := H1
                            clear H1
                            by_cases c36 : a0_33 = 0
                            · rw [if_pos c36] at H
                              have c36b0 : (a0_33 == 0) = true := beq_iff_eq.mpr c36
                              have c36b1 : (a0_33 != 0) = false := bne_eq_false_iff_eq.mpr c36
                              clear c36
                              obtain rfl := Option.some.inj H
                              have hcz37_33 : wc.cell? ⟨gb103, 33, none⟩ = some (.int .u8 a0_33) := (blk_cell BK103.out 33).trans rfl
                              have hcz37_34 : wc.cell? ⟨gb103, 34, none⟩ = some (.bool false) := (blk_cell BK103.out 34).trans rfl
                              have hcz37_38 : wc.cell? ⟨gb103, 38, none⟩ = some (.int .u64 a0_38) := (blk_cell BK103.out 38).trans rfl
                              have hcz37_58 : wc.cell? ⟨gb103, 58, none⟩ = some (.int .u64 a0_58) := (blk_cell BK103.out 58).trans rfl
                              have hfz37_33 := blk_frozen BK103.out 33
                              have hfz37_34 := blk_frozen BK103.out 34
                              have hfz37_38 := blk_frozen BK103.out 38
                              have hfz37_58 := blk_frozen BK103.out 58
                              go_wp2
                              go_ret
                              exact ⟨by first | rfl | (simp [errW_none, errW_some] <;> rfl) | (simp [*, errW_none, errW_some] <;> rfl), by repeat (first | (with_reducible first | exact HB.out | apply below_alloc | apply pw_below_drewN | apply below_drew1 | refine below_set ?_ GE103.out) | exact HB.out)⟩
                            · rw [if_neg c36] at H
                              have c36b0 : (a0_33 == 0) = false := beq_eq_false_iff_ne.mpr c36
                              have c36b1 : (a0_33 != 0) = true := bne_iff_ne.mpr c36
                              by_cases c38 : a1 = 384
                              · rw [if_pos c38] at H
                                have c38b0 : (a1 == 384) = true := beq_iff_eq.mpr c38
                                have c38b1 : (a1 != 384) = false := bne_eq_false_iff_eq.mpr c38
                                clear c38
                                by_cases c39 : (Go.bits .and .u64 a0_38 1048576) = 0
                                · rw [if_pos c39] at H
                                  have c39b0 : ((Go.bits .and .u64 a0_38 1048576) == 0) = true := beq_iff_eq.mpr c39
                                  have c39b1 : ((Go.bits .and .u64 a0_38 1048576) != 0) = false := bne_eq_false_iff_eq.mpr c39
                                  clear c39
                                  obtain rfl := Option.some.inj H
                                  have hcz40_33 : wc.cell? ⟨gb103, 33, none⟩ = some (.int .u8 a0_33) := (blk_cell BK103.out 33).trans rfl
                                  have hcz40_34 : wc.cell? ⟨gb103, 34, none⟩ = some (.bool false) := (blk_cell BK103.out 34).trans rfl
                                  have hcz40_38 : wc.cell? ⟨gb103, 38, none⟩ = some (.int .u64 a0_38) := (blk_cell BK103.out 38).trans rfl
                                  have hcz40_58 : wc.cell? ⟨gb103, 58, none⟩ = some (.int .u64 a0_58) := (blk_cell BK103.out 58).trans rfl
                                  have hfz40_33 := blk_frozen BK103.out 33
                                  have hfz40_34 := blk_frozen BK103.out 34
                                  have hfz40_38 := blk_frozen BK103.out 38
                                  have hfz40_58 := blk_frozen BK103.out 58
                                  go_wp2
                                  go_ret
                                  exact ⟨by first | rfl | (simp [errW_none, errW_some] <;> rfl) | (simp [*, errW_none, errW_some] <;> rfl), by repeat (first | (with_reducible first | exact HB.out | apply below_alloc | apply pw_below_drewN | apply below_drew1 | refine below_set ?_ GE103.out) | exact HB.out)⟩
                                · rw [if_neg c39] at H
                                  have c39b0 : ((Go.bits .and .u64 a0_38 1048576) == 0) = false := beq_eq_false_iff_ne.mpr c39
                                  have c39b1 : ((Go.bits .and .u64 a0_38 1048576) != 0) = true := bne_iff_ne.mpr c39
                                  obtain rfl := Option.some.inj H
                                  have hcz41_33 : wc.cell? ⟨gb103, 33, none⟩ = some (.int .u8 a0_33) := (blk_cell BK103.out 33).trans rfl
                                  have hcz41_34 : wc.cell? ⟨gb103, 34, none⟩ = some (.bool false) := (blk_cell BK103.out 34).trans rfl
                                  have hcz41_38 : wc.cell? ⟨gb103, 38, none⟩ = some (.int .u64 a0_38) := (blk_cell BK103.out 38).trans rfl
                                  have hcz41_58 : wc.cell? ⟨gb103, 58, none⟩ = some (.int .u64 a0_58) := (blk_cell BK103.out 58).trans rfl
                                  have hfz41_33 := blk_frozen BK103.out 33
                                  have hfz41_34 := blk_frozen BK103.out 34
                                  have hfz41_38 := blk_frozen BK103.out 38
                                  have hfz41_58 := blk_frozen BK103.out 58
                                  go_wp2
                                  go_ret
                                  exact ⟨by first | rfl | (simp [errW_none, errW_some] <;> rfl) | (simp [*, errW_none, errW_some] <;> rfl), by repeat (first | (with_reducible first | exact HB.out | apply below_alloc | apply pw_below_drewN | apply below_drew1 | refine below_set ?_ GE103.out) | exact HB.out)⟩
                              · rw [if_neg c38] at H
                                have c38b0 : (a1 == 384) = false := beq_eq_false_iff_ne.mpr c38
                                have c38b1 : (a1 != 384) = true := bne_iff_ne.mpr c38
                                by_cases c42 : a1 = 1664
                                · rw [if_pos c42] at H
                                  have c42b0 : (a1 == 1664) = true := beq_iff_eq.mpr c42
                                  have c42b1 : (a1 != 1664) = false := bne_eq_false_iff_eq.mpr c42
                                  clear c42
                                  by_cases c43 : (Go.bits .and .u64 a0_38 1048576) = 0
                                  · rw [if_pos c43] at H
                                    have c43b0 : ((Go.bits .and .u64 a0_38 1048576) == 0) = true := beq_iff_eq.mpr c43
                                    have c43b1 : ((Go.bits .and .u64 a0_38 1048576) != 0) = false := bne_eq_false_iff_eq.mpr c43
                                    clear c43
                                    obtain rfl := Option.some.inj H
                                    have hcz44_33 : wc.cell? ⟨gb103, 33, none⟩ = some (.int .u8 a0_33) := (blk_cell BK103.out 33).trans rfl
                                    have hcz44_34 : wc.cell? ⟨gb103, 34, none⟩ = some (.bool false) := (blk_cell BK103.out 34).trans rfl
                                    have hcz44_38 : wc.cell? ⟨gb103, 38, none⟩ = some (.int .u64 a0_38) := (blk_cell BK103.out 38).trans rfl
                                    have hcz44_58 : wc.cell? ⟨gb103, 58, none⟩ = some (.int .u64 a0_58) := (blk_cell BK103.out 58).trans rfl
                                    have hfz44_33 := blk_frozen BK103.out 33
                                    have hfz44_34 := blk_frozen BK103.out 34
                                    have hfz44_38 := blk_frozen BK103.out 38
                                    have hfz44_58 := blk_frozen BK103.out 58
                                    go_wp2
                                    go_ret
                                    exact ⟨by first | rfl | (simp [errW_none, errW_some] <;> rfl) | (simp [*, errW_none, errW_some] <;> rfl), by repeat (first | (with_reducible first | exact HB.out | apply below_alloc | apply pw_below_drewN | apply below_drew1 | refine below_set ?_ GE103.out) | exact HB.out)⟩
                                  · rw [if_neg c43] at H
                                    have c43b0 : ((Go.bits .and .u64 a0_38 1048576) == 0) = false := beq_eq_false_iff_ne.mpr c43
                                    have c43b1 : ((Go.bits .and .u64 a0_38 1048576) != 0) = true := bne_iff_ne.mpr c43
                                    obtain rfl := Option.some.inj H
                                    have hcz45_33 : wc.cell? ⟨gb103, 33, none⟩ = some (.int .u8 a0_33) := (blk_cell BK103.out 33).trans rfl
                                    have hcz45_34 : wc.cell? ⟨gb103, 34, none⟩ = some (.bool false) := (blk_cell BK103.out 34).trans rfl
                                    have hcz45_38 : wc.cell? ⟨gb103, 38, none⟩ = some (.int .u64 a0_38) := (blk_cell BK103.out 38).trans rfl
                                    have hcz45_58 : wc.cell? ⟨gb103, 58, none⟩ = some (.int .u64 a0_58) := (blk_cell BK103.out 58).trans rfl
                                    have hfz45_33 := blk_frozen BK103.out 33
                                    have hfz45_34 := blk_frozen BK103.out 34
                                    have hfz45_38 := blk_frozen BK103.out 38
                                    have hfz45_58 := blk_frozen BK103.out 58
                                    go_wp2
                                    go_ret
                                    exact ⟨by first | rfl | (simp [errW_none, errW_some] <;> rfl) | (simp [*, errW_none, errW_some] <;> rfl), by repeat (first | (with_reducible first | exact HB.out | apply below_alloc | apply pw_below_drewN | apply below_drew1 | refine below_set ?_ GE103.out) | exact HB.out)⟩
                                · rw [if_neg c42] at H
                                  have c42b0 : (a1 == 1664) = false := beq_eq_false_iff_ne.mpr c42
                                  have c42b1 : (a1 != 1664) = true := bne_iff_ne.mpr c42
                                  obtain rfl := Option.some.inj H
                                  have hcz46_33 : wc.cell? ⟨gb103, 33, none⟩ = some (.int .u8 a0_33) := (blk_cell BK103.out 33).trans rfl
                                  have hcz46_34 : wc.cell? ⟨gb103, 34, none⟩ = some (.bool false) := (blk_cell BK103.out 34).trans rfl
                                  have hcz46_38 : wc.cell? ⟨gb103, 38, none⟩ = some (.int .u64 a0_38) := (blk_cell BK103.out 38).trans rfl
                                  have hcz46_58 : wc.cell? ⟨gb103, 58, none⟩ = some (.int .u64 a0_58) := (blk_cell BK103.out 58).trans rfl
                                  have hfz46_33 := blk_frozen BK103.out 33
                                  have hfz46_34 := blk_frozen BK103.out 34
                                  have hfz46_38 := blk_frozen BK103.out 38
                                  have hfz46_58 := blk_frozen BK103.out 58
                                  go_wp2
                                  go_ret
                                  exact ⟨by first | rfl | (simp [errW_none, errW_some] <;> rfl) | (simp [*, errW_none, errW_some] <;> rfl), by repeat (first | (with_reducible first | exact HB.out | apply below_alloc | apply pw_below_drewN | apply below_drew1 | refine below_set ?_ GE103.out) | exact HB.out)⟩

end Go.Proofs.YtbmmafebekehdaaDoor.Q
