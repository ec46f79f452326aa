/- Which interrupt is taken is the document's: the document's functions, walked; the law. (By a program of this session.) -/
import Derived.Test.YtpbodidpcbodaaaDoorIWakes
import Derived.Test.YtpbodidpcbodaaaDoorIPlain
import Derived.Test.YtpbodidpcbodaaaDoorQx0
import Derived.Test.YtpbodidpcbodaaaDoorQx5
import Derived.Test.YtpbodidpcbodaaaDoorHrow
set_option linter.unusedSimpArgs false
set_option linter.unusedVariables false
namespace Go.Proofs.YtpbodidpcbodaaaDoor.Q
open Go.RowKit Go.Proofs.YtpbodidpcbodaaaDoorW.PrintWords Go.Proofs.YtpbodidpcbodaaaDoorW.PrintLast Go.Proofs.YtpbodidpcbodaaaDoorW.PrintMore
attribute [local go_sem] max2_int min2_int max_two min_two max_three min_three max_four min_four   -- for this text's walks alone
set_option linter.unusedVariables false
set_option linter.unusedSimpArgs false

/-! ### mezzanineref12_Pending: function 18 -/
mutual
def mezzanineref12_Pending.j0 : Nat → Int → Int → Int → Int → Int → Int → Int → Int → Int → Int → Int → Int → Int → Int → Int → Int → Int → Int → Int → Int → Int → Int → Int → Int → Int → Int → Int → Int → Int → Int → Int → Int → Int → Int → Int → Bool → Bool → Bool → Int → Int → Int → Int → Int → Int → Int → Int → Int → Int → Int → Int → Int → Int → Int → Int → Int → Int → Int → Int → Int → Int → Int → Int → Int → Int → Int → Int → Int → Int → Int → Int → Int → Int → Int → Int → Int → Int → Int → Int → Bool → Bool → Bool → Bool → Int → Int → Option (Int)
  | 0, _, _, _, _, _, _, _, _, _, _, _, _, _, _, _, _, _, _, _, _, _, _, _, _, _, _, _, _, _, _, _, _, _, _, _, _, _, _, _, _, _, _, _, _, _, _, _, _, _, _, _, _, _, _, _, _, _, _, _, _, _, _, _, _, _, _, _, _, _, _, _, _, _, _, _, _, _, _, _, _, _, _, _, _ => none
  | k + 1, x5, x128000, x128001, x128002, x128003, x128004, x128005, x128006, x128007, x128008, x128009, x128010, x128011, x128012, x128013, x128014, x128015, x128016, x128017, x128018, x128019, x128020, x128021, x128022, x128023, x128024, x128025, x128026, x128027, x128028, x128029, x128030, x128031, x128032, x128033, x128034, x128035, x128036, x128037, x128038, x128039, x128040, x128041, x128042, x128043, x128044, x128045, x128046, x128047, x128048, x128049, x128050, x128051, x128052, x128053, x128054, x128055, x128056, x128057, x128058, x128059, x128060, x128061, x128062, x128063, x128064, x128065, x128066, x128067, x128068, x128069, x128070, x128071, x128072, x128073, x128074, x128075, x128076, x129000, x129001, x129002, x129003, x129004, x129005 => if x129001 = true then (mezzanineref12_Pending.j1 k (Go.bits .or .u64 x5 128) x128000 x128001 x128002 x128003 x128004 x128005 x128006 x128007 x128008 x128009 x128010 x128011 x128012 x128013 x128014 x128015 x128016 x128017 x128018 x128019 x128020 x128021 x128022 x128023 x128024 x128025 x128026 x128027 x128028 x128029 x128030 x128031 x128032 x128033 x128034 x128035 x128036 x128037 x128038 x128039 x128040 x128041 x128042 x128043 x128044 x128045 x128046 x128047 x128048 x128049 x128050 x128051 x128052 x128053 x128054 x128055 x128056 x128057 x128058 x128059 x128060 x128061 x128062 x128063 x128064 x128065 x128066 x128067 x128068 x128069 x128070 x128071 x128072 x128073 x128074 x128075 x128076 x129000 x129001 x129002 x129003 x129004 x129005) else (mezzanineref12_Pending.j1 k x5 x128000 x128001 x128002 x128003 x128004 x128005 x128006 x128007 x128008 x128009 x128010 x128011 x128012 x128013 x128014 x128015 x128016 x128017 x128018 x128019 x128020 x128021 x128022 x128023 x128024 x128025 x128026 x128027 x128028 x128029 x128030 x128031 x128032 x128033 x128034 x128035 x128036 x128037 x128038 x128039 x128040 x128041 x128042 x128043 x128044 x128045 x128046 x128047 x128048 x128049 x128050 x128051 x128052 x128053 x128054 x128055 x128056 x128057 x128058 x128059 x128060 x128061 x128062 x128063 x128064 x128065 x128066 x128067 x128068 x128069 x128070 x128071 x128072 x128073 x128074 x128075 x128076 x129000 x129001 x129002 x129003 x129004 x129005)
def mezzanineref12_Pending.j1 : Nat → Int → Int → Int → Int → Int → Int → Int → Int → Int → Int → Int → Int → Int → Int → Int → Int → Int → Int → Int → Int → Int → Int → Int → Int → Int → Int → Int → Int → Int → Int → Int → Int → Int → Int → Int → Bool → Bool → Bool → Int → Int → Int → Int → Int → Int → Int → Int → Int → Int → Int → Int → Int → Int → Int → Int → Int → Int → Int → Int → Int → Int → Int → Int → Int → Int → Int → Int → Int → Int → Int → Int → Int → Int → Int → Int → Int → Int → Int → Int → Bool → Bool → Bool → Bool → Int → Int → Option (Int)
  | 0, _, _, _, _, _, _, _, _, _, _, _, _, _, _, _, _, _, _, _, _, _, _, _, _, _, _, _, _, _, _, _, _, _, _, _, _, _, _, _, _, _, _, _, _, _, _, _, _, _, _, _, _, _, _, _, _, _, _, _, _, _, _, _, _, _, _, _, _, _, _, _, _, _, _, _, _, _, _, _, _, _, _, _, _ => none
  | k + 1, x5, x128000, x128001, x128002, x128003, x128004, x128005, x128006, x128007, x128008, x128009, x128010, x128011, x128012, x128013, x128014, x128015, x128016, x128017, x128018, x128019, x128020, x128021, x128022, x128023, x128024, x128025, x128026, x128027, x128028, x128029, x128030, x128031, x128032, x128033, x128034, x128035, x128036, x128037, x128038, x128039, x128040, x128041, x128042, x128043, x128044, x128045, x128046, x128047, x128048, x128049, x128050, x128051, x128052, x128053, x128054, x128055, x128056, x128057, x128058, x128059, x128060, x128061, x128062, x128063, x128064, x128065, x128066, x128067, x128068, x128069, x128070, x128071, x128072, x128073, x128074, x128075, x128076, x129000, x129001, x129002, x129003, x129004, x129005 => if x129002 = true then (mezzanineref12_Pending.j2 k (Go.bits .or .u64 x5 2048) x128000 x128001 x128002 x128003 x128004 x128005 x128006 x128007 x128008 x128009 x128010 x128011 x128012 x128013 x128014 x128015 x128016 x128017 x128018 x128019 x128020 x128021 x128022 x128023 x128024 x128025 x128026 x128027 x128028 x128029 x128030 x128031 x128032 x128033 x128034 x128035 x128036 x128037 x128038 x128039 x128040 x128041 x128042 x128043 x128044 x128045 x128046 x128047 x128048 x128049 x128050 x128051 x128052 x128053 x128054 x128055 x128056 x128057 x128058 x128059 x128060 x128061 x128062 x128063 x128064 x128065 x128066 x128067 x128068 x128069 x128070 x128071 x128072 x128073 x128074 x128075 x128076 x129000 x129001 x129002 x129003 x129004 x129005) else (mezzanineref12_Pending.j2 k x5 x128000 x128001 x128002 x128003 x128004 x128005 x128006 x128007 x128008 x128009 x128010 x128011 x128012 x128013 x128014 x128015 x128016 x128017 x128018 x128019 x128020 x128021 x128022 x128023 x128024 x128025 x128026 x128027 x128028 x128029 x128030 x128031 x128032 x128033 x128034 x128035 x128036 x128037 x128038 x128039 x128040 x128041 x128042 x128043 x128044 x128045 x128046 x128047 x128048 x128049 x128050 x128051 x128052 x128053 x128054 x128055 x128056 x128057 x128058 x128059 x128060 x128061 x128062 x128063 x128064 x128065 x128066 x128067 x128068 x128069 x128070 x128071 x128072 x128073 x128074 x128075 x128076 x129000 x129001 x129002 x129003 x129004 x129005)
def mezzanineref12_Pending.j2 : Nat → Int → Int → Int → Int → Int → Int → Int → Int → Int → Int → Int → Int → Int → Int → Int → Int → Int → Int → Int → Int → Int → Int → Int → Int → Int → Int → Int → Int → Int → Int → Int → Int → Int → Int → Int → Bool → Bool → Bool → Int → Int → Int → Int → Int → Int → Int → Int → Int → Int → Int → Int → Int → Int → Int → Int → Int → Int → Int → Int → Int → Int → Int → Int → Int → Int → Int → Int → Int → Int → Int → Int → Int → Int → Int → Int → Int → Int → Int → Int → Bool → Bool → Bool → Bool → Int → Int → Option (Int)
  | 0, _, _, _, _, _, _, _, _, _, _, _, _, _, _, _, _, _, _, _, _, _, _, _, _, _, _, _, _, _, _, _, _, _, _, _, _, _, _, _, _, _, _, _, _, _, _, _, _, _, _, _, _, _, _, _, _, _, _, _, _, _, _, _, _, _, _, _, _, _, _, _, _, _, _, _, _, _, _, _, _, _, _, _, _ => none
  | k + 1, x5, x128000, x128001, x128002, x128003, x128004, x128005, x128006, x128007, x128008, x128009, x128010, x128011, x128012, x128013, x128014, x128015, x128016, x128017, x128018, x128019, x128020, x128021, x128022, x128023, x128024, x128025, x128026, x128027, x128028, x128029, x128030, x128031, x128032, x128033, x128034, x128035, x128036, x128037, x128038, x128039, x128040, x128041, x128042, x128043, x128044, x128045, x128046, x128047, x128048, x128049, x128050, x128051, x128052, x128053, x128054, x128055, x128056, x128057, x128058, x128059, x128060, x128061, x128062, x128063, x128064, x128065, x128066, x128067, x128068, x128069, x128070, x128071, x128072, x128073, x128074, x128075, x128076, x129000, x129001, x129002, x129003, x129004, x129005 => if x129003 = true then (mezzanineref12_Pending.j3 k (Go.bits .or .u64 x5 512) x128000 x128001 x128002 x128003 x128004 x128005 x128006 x128007 x128008 x128009 x128010 x128011 x128012 x128013 x128014 x128015 x128016 x128017 x128018 x128019 x128020 x128021 x128022 x128023 x128024 x128025 x128026 x128027 x128028 x128029 x128030 x128031 x128032 x128033 x128034 x128035 x128036 x128037 x128038 x128039 x128040 x128041 x128042 x128043 x128044 x128045 x128046 x128047 x128048 x128049 x128050 x128051 x128052 x128053 x128054 x128055 x128056 x128057 x128058 x128059 x128060 x128061 x128062 x128063 x128064 x128065 x128066 x128067 x128068 x128069 x128070 x128071 x128072 x128073 x128074 x128075 x128076 x129000 x129001 x129002 x129003 x129004 x129005) else (mezzanineref12_Pending.j3 k x5 x128000 x128001 x128002 x128003 x128004 x128005 x128006 x128007 x128008 x128009 x128010 x128011 x128012 x128013 x128014 x128015 x128016 x128017 x128018 x128019 x128020 x128021 x128022 x128023 x128024 x128025 x128026 x128027 x128028 x128029 x128030 x128031 x128032 x128033 x128034 x128035 x128036 x128037 x128038 x128039 x128040 x128041 x128042 x128043 x128044 x128045 x128046 x128047 x128048 x128049 x128050 x128051 x128052 x128053 x128054 x128055 x128056 x128057 x128058 x128059 x128060 x128061 x128062 x128063 x128064 x128065 x128066 x128067 x128068 x128069 x128070 x128071 x128072 x128073 x128074 x128075 x128076 x129000 x129001 x129002 x129003 x129004 x129005)
def mezzanineref12_Pending.j3 : Nat → Int → Int → Int → Int → Int → Int → Int → Int → Int → Int → Int → Int → Int → Int → Int → Int → Int → Int → Int → Int → Int → Int → Int → Int → Int → Int → Int → Int → Int → Int → Int → Int → Int → Int → Int → Bool → Bool → Bool → Int → Int → Int → Int → Int → Int → Int → Int → Int → Int → Int → Int → Int → Int → Int → Int → Int → Int → Int → Int → Int → Int → Int → Int → Int → Int → Int → Int → Int → Int → Int → Int → Int → Int → Int → Int → Int → Int → Int → Int → Bool → Bool → Bool → Bool → Int → Int → Option (Int)
  | 0, _, _, _, _, _, _, _, _, _, _, _, _, _, _, _, _, _, _, _, _, _, _, _, _, _, _, _, _, _, _, _, _, _, _, _, _, _, _, _, _, _, _, _, _, _, _, _, _, _, _, _, _, _, _, _, _, _, _, _, _, _, _, _, _, _, _, _, _, _, _, _, _, _, _, _, _, _, _, _, _, _, _, _, _ => none
  | k + 1, x5, x128000, x128001, x128002, x128003, x128004, x128005, x128006, x128007, x128008, x128009, x128010, x128011, x128012, x128013, x128014, x128015, x128016, x128017, x128018, x128019, x128020, x128021, x128022, x128023, x128024, x128025, x128026, x128027, x128028, x128029, x128030, x128031, x128032, x128033, x128034, x128035, x128036, x128037, x128038, x128039, x128040, x128041, x128042, x128043, x128044, x128045, x128046, x128047, x128048, x128049, x128050, x128051, x128052, x128053, x128054, x128055, x128056, x128057, x128058, x128059, x128060, x128061, x128062, x128063, x128064, x128065, x128066, x128067, x128068, x128069, x128070, x128071, x128072, x128073, x128074, x128075, x128076, x129000, x129001, x129002, x129003, x129004, x129005 => (mezzanineref12_bit.f x128058 12).bind fun t129 => (if t129 = true then ((mezzanineref12_bit.f x129004 1).bind fun t130 => (mezzanineref12_Pending.j4 k x5 t130 x128000 x128001 x128002 x128003 x128004 x128005 x128006 x128007 x128008 x128009 x128010 x128011 x128012 x128013 x128014 x128015 x128016 x128017 x128018 x128019 x128020 x128021 x128022 x128023 x128024 x128025 x128026 x128027 x128028 x128029 x128030 x128031 x128032 x128033 x128034 x128035 x128036 x128037 x128038 x128039 x128040 x128041 x128042 x128043 x128044 x128045 x128046 x128047 x128048 x128049 x128050 x128051 x128052 x128053 x128054 x128055 x128056 x128057 x128058 x128059 x128060 x128061 x128062 x128063 x128064 x128065 x128066 x128067 x128068 x128069 x128070 x128071 x128072 x128073 x128074 x128075 x128076 x129000 x129001 x129002 x129003 x129004 x129005)) else (mezzanineref12_Pending.j4 k x5 false x128000 x128001 x128002 x128003 x128004 x128005 x128006 x128007 x128008 x128009 x128010 x128011 x128012 x128013 x128014 x128015 x128016 x128017 x128018 x128019 x128020 x128021 x128022 x128023 x128024 x128025 x128026 x128027 x128028 x128029 x128030 x128031 x128032 x128033 x128034 x128035 x128036 x128037 x128038 x128039 x128040 x128041 x128042 x128043 x128044 x128045 x128046 x128047 x128048 x128049 x128050 x128051 x128052 x128053 x128054 x128055 x128056 x128057 x128058 x128059 x128060 x128061 x128062 x128063 x128064 x128065 x128066 x128067 x128068 x128069 x128070 x128071 x128072 x128073 x128074 x128075 x128076 x129000 x129001 x129002 x129003 x129004 x129005))
def mezzanineref12_Pending.j4 : Nat → Int → Bool → Int → Int → Int → Int → Int → Int → Int → Int → Int → Int → Int → Int → Int → Int → Int → Int → Int → Int → Int → Int → Int → Int → Int → Int → Int → Int → Int → Int → Int → Int → Int → Int → Int → Int → Bool → Bool → Bool → Int → Int → Int → Int → Int → Int → Int → Int → Int → Int → Int → Int → Int → Int → Int → Int → Int → Int → Int → Int → Int → Int → Int → Int → Int → Int → Int → Int → Int → Int → Int → Int → Int → Int → Int → Int → Int → Int → Int → Int → Bool → Bool → Bool → Bool → Int → Int → Option (Int)
  | 0, _, _, _, _, _, _, _, _, _, _, _, _, _, _, _, _, _, _, _, _, _, _, _, _, _, _, _, _, _, _, _, _, _, _, _, _, _, _, _, _, _, _, _, _, _, _, _, _, _, _, _, _, _, _, _, _, _, _, _, _, _, _, _, _, _, _, _, _, _, _, _, _, _, _, _, _, _, _, _, _, _, _, _, _, _ => none
  | k + 1, x5, x34, x128000, x128001, x128002, x128003, x128004, x128005, x128006, x128007, x128008, x128009, x128010, x128011, x128012, x128013, x128014, x128015, x128016, x128017, x128018, x128019, x128020, x128021, x128022, x128023, x128024, x128025, x128026, x128027, x128028, x128029, x128030, x128031, x128032, x128033, x128034, x128035, x128036, x128037, x128038, x128039, x128040, x128041, x128042, x128043, x128044, x128045, x128046, x128047, x128048, x128049, x128050, x128051, x128052, x128053, x128054, x128055, x128056, x128057, x128058, x128059, x128060, x128061, x128062, x128063, x128064, x128065, x128066, x128067, x128068, x128069, x128070, x128071, x128072, x128073, x128074, x128075, x128076, x129000, x129001, x129002, x129003, x129004, x129005 => if x34 = true then (if (Go.bits .and .u64 x129004 x128063) = 0 then (some (Go.bits .or .u64 x5 1024)) else (some (Go.bits .or .u64 (Go.bits .or .u64 x5 1024) 4096))) else (if (Go.bits .and .u64 x129004 x128063) = 0 then (some x5) else (some (Go.bits .or .u64 x5 4096)))
end
def mezzanineref12_Pending.f (k : Nat) (a0_0 : Int) (a0_1 : Int) (a0_2 : Int) (a0_3 : Int) (a0_4 : Int) (a0_5 : Int) (a0_6 : Int) (a0_7 : Int) (a0_8 : Int) (a0_9 : Int) (a0_10 : Int) (a0_11 : Int) (a0_12 : Int) (a0_13 : Int) (a0_14 : Int) (a0_15 : Int) (a0_16 : Int) (a0_17 : Int) (a0_18 : Int) (a0_19 : Int) (a0_20 : Int) (a0_21 : Int) (a0_22 : Int) (a0_23 : Int) (a0_24 : Int) (a0_25 : Int) (a0_26 : Int) (a0_27 : Int) (a0_28 : Int) (a0_29 : Int) (a0_30 : Int) (a0_31 : Int) (a0_32 : Int) (a0_33 : Int) (a0_34 : Bool) (a0_35 : Bool) (a0_36 : Bool) (a0_37 : Int) (a0_38 : Int) (a0_39 : Int) (a0_40 : Int) (a0_41 : Int) (a0_42 : Int) (a0_43 : Int) (a0_44 : Int) (a0_45 : Int) (a0_46 : Int) (a0_47 : Int) (a0_48 : Int) (a0_49 : Int) (a0_50 : Int) (a0_51 : Int) (a0_52 : Int) (a0_53 : Int) (a0_54 : Int) (a0_55 : Int) (a0_56 : Int) (a0_57 : Int) (a0_58 : Int) (a0_59 : Int) (a0_60 : Int) (a0_61 : Int) (a0_62 : Int) (a0_63 : Int) (a0_64 : Int) (a0_65 : Int) (a0_66 : Int) (a0_67 : Int) (a0_68 : Int) (a0_69 : Int) (a0_70 : Int) (a0_71 : Int) (a0_72 : Int) (a0_73 : Int) (a0_74 : Int) (a0_75 : Int) (a0_76 : Int) (a1_0 : Bool) (a1_1 : Bool) (a1_2 : Bool) (a1_3 : Bool) (a1_4 : Int) (a1_5 : Int) : Option (Int) := if a1_0 = true then (mezzanineref12_Pending.j0 k (Go.bits .or .u64 (Go.bits .or .u64 a0_42 a0_61) 8) a0_0 a0_1 a0_2 a0_3 a0_4 a0_5 a0_6 a0_7 a0_8 a0_9 a0_10 a0_11 a0_12 a0_13 a0_14 a0_15 a0_16 a0_17 a0_18 a0_19 a0_20 a0_21 a0_22 a0_23 a0_24 a0_25 a0_26 a0_27 a0_28 a0_29 a0_30 a0_31 a0_32 a0_33 a0_34 a0_35 a0_36 a0_37 a0_38 a0_39 a0_40 a0_41 a0_42 a0_43 a0_44 a0_45 a0_46 a0_47 a0_48 a0_49 a0_50 a0_51 a0_52 a0_53 a0_54 a0_55 a0_56 a0_57 a0_58 a0_59 a0_60 a0_61 a0_62 a0_63 a0_64 a0_65 a0_66 a0_67 a0_68 a0_69 a0_70 a0_71 a0_72 a0_73 a0_74 a0_75 a0_76 a1_0 a1_1 a1_2 a1_3 a1_4 a1_5) else (mezzanineref12_Pending.j0 k (Go.bits .or .u64 a0_42 a0_61) a0_0 a0_1 a0_2 a0_3 a0_4 a0_5 a0_6 a0_7 a0_8 a0_9 a0_10 a0_11 a0_12 a0_13 a0_14 a0_15 a0_16 a0_17 a0_18 a0_19 a0_20 a0_21 a0_22 a0_23 a0_24 a0_25 a0_26 a0_27 a0_28 a0_29 a0_30 a0_31 a0_32 a0_33 a0_34 a0_35 a0_36 a0_37 a0_38 a0_39 a0_40 a0_41 a0_42 a0_43 a0_44 a0_45 a0_46 a0_47 a0_48 a0_49 a0_50 a0_51 a0_52 a0_53 a0_54 a0_55 a0_56 a0_57 a0_58 a0_59 a0_60 a0_61 a0_62 a0_63 a0_64 a0_65 a0_66 a0_67 a0_68 a0_69 a0_70 a0_71 a0_72 a0_73 a0_74 a0_75 a0_76 a1_0 a1_1 a1_2 a1_3 a1_4 a1_5)
theorem mezzanineref12_Pending.mono_l : ∀ k, (∀ y0 y1 y2 y3 y4 y5 y6 y7 y8 y9 y10 y11 y12 y13 y14 y15 y16 y17 y18 y19 y20 y21 y22 y23 y24 y25 y26 y27 y28 y29 y30 y31 y32 y33 y34 y35 y36 y37 y38 y39 y40 y41 y42 y43 y44 y45 y46 y47 y48 y49 y50 y51 y52 y53 y54 y55 y56 y57 y58 y59 y60 y61 y62 y63 y64 y65 y66 y67 y68 y69 y70 y71 y72 y73 y74 y75 y76 y77 y78 y79 y80 y81 y82 y83, LeO (mezzanineref12_Pending.j0 k y0 y1 y2 y3 y4 y5 y6 y7 y8 y9 y10 y11 y12 y13 y14 y15 y16 y17 y18 y19 y20 y21 y22 y23 y24 y25 y26 y27 y28 y29 y30 y31 y32 y33 y34 y35 y36 y37 y38 y39 y40 y41 y42 y43 y44 y45 y46 y47 y48 y49 y50 y51 y52 y53 y54 y55 y56 y57 y58 y59 y60 y61 y62 y63 y64 y65 y66 y67 y68 y69 y70 y71 y72 y73 y74 y75 y76 y77 y78 y79 y80 y81 y82 y83) (mezzanineref12_Pending.j0 (k + 1) y0 y1 y2 y3 y4 y5 y6 y7 y8 y9 y10 y11 y12 y13 y14 y15 y16 y17 y18 y19 y20 y21 y22 y23 y24 y25 y26 y27 y28 y29 y30 y31 y32 y33 y34 y35 y36 y37 y38 y39 y40 y41 y42 y43 y44 y45 y46 y47 y48 y49 y50 y51 y52 y53 y54 y55 y56 y57 y58 y59 y60 y61 y62 y63 y64 y65 y66 y67 y68 y69 y70 y71 y72 y73 y74 y75 y76 y77 y78 y79 y80 y81 y82 y83)) ∧ (∀ y0 y1 y2 y3 y4 y5 y6 y7 y8 y9 y10 y11 y12 y13 y14 y15 y16 y17 y18 y19 y20 y21 y22 y23 y24 y25 y26 y27 y28 y29 y30 y31 y32 y33 y34 y35 y36 y37 y38 y39 y40 y41 y42 y43 y44 y45 y46 y47 y48 y49 y50 y51 y52 y53 y54 y55 y56 y57 y58 y59 y60 y61 y62 y63 y64 y65 y66 y67 y68 y69 y70 y71 y72 y73 y74 y75 y76 y77 y78 y79 y80 y81 y82 y83, LeO (mezzanineref12_Pending.j1 k y0 y1 y2 y3 y4 y5 y6 y7 y8 y9 y10 y11 y12 y13 y14 y15 y16 y17 y18 y19 y20 y21 y22 y23 y24 y25 y26 y27 y28 y29 y30 y31 y32 y33 y34 y35 y36 y37 y38 y39 y40 y41 y42 y43 y44 y45 y46 y47 y48 y49 y50 y51 y52 y53 y54 y55 y56 y57 y58 y59 y60 y61 y62 y63 y64 y65 y66 y67 y68 y69 y70 y71 y72 y73 y74 y75 y76 y77 y78 y79 y80 y81 y82 y83) (mezzanineref12_Pending.j1 (k + 1) y0 y1 y2 y3 y4 y5 y6 y7 y8 y9 y10 y11 y12 y13 y14 y15 y16 y17 y18 y19 y20 y21 y22 y23 y24 y25 y26 y27 y28 y29 y30 y31 y32 y33 y34 y35 y36 y37 y38 y39 y40 y41 y42 y43 y44 y45 y46 y47 y48 y49 y50 y51 y52 y53 y54 y55 y56 y57 y58 y59 y60 y61 y62 y63 y64 y65 y66 y67 y68 y69 y70 y71 y72 y73 y74 y75 y76 y77 y78 y79 y80 y81 y82 y83)) ∧ (∀ y0 y1 y2 y3 y4 y5 y6 y7 y8 y9 y10 y11 y12 y13 y14 y15 y16 y17 y18 y19 y20 y21 y22 y23 y24 y25 y26 y27 y28 y29 y30 y31 y32 y33 y34 y35 y36 y37 y38 y39 y40 y41 y42 y43 y44 y45 y46 y47 y48 y49 y50 y51 y52 y53 y54 y55 y56 y57 y58 y59 y60 y61 y62 y63 y64 y65 y66 y67 y68 y69 y70 y71 y72 y73 y74 y75 y76 y77 y78 y79 y80 y81 y82 y83, LeO (mezzanineref12_Pending.j2 k y0 y1 y2 y3 y4 y5 y6 y7 y8 y9 y10 y11 y12 y13 y14 y15 y16 y17 y18 y19 y20 y21 y22 y23 y24 y25 y26 y27 y28 y29 y30 y31 y32 y33 y34 y35 y36 y37 y38 y39 y40 y41 y42 y43 y44 y45 y46 y47 y48 y49 y50 y51 y52 y53 y54 y55 y56 y57 y58 y59 y60 y61 y62 y63 y64 y65 y66 y67 y68 y69 y70 y71 y72 y73 y74 y75 y76 y77 y78 y79 y80 y81 y82 y83) (mezzanineref12_Pending.j2 (k + 1) y0 y1 y2 y3 y4 y5 y6 y7 y8 y9 y10 y11 y12 y13 y14 y15 y16 y17 y18 y19 y20 y21 y22 y23 y24 y25 y26 y27 y28 y29 y30 y31 y32 y33 y34 y35 y36 y37 y38 y39 y40 y41 y42 y43 y44 y45 y46 y47 y48 y49 y50 y51 y52 y53 y54 y55 y56 y57 y58 y59 y60 y61 y62 y63 y64 y65 y66 y67 y68 y69 y70 y71 y72 y73 y74 y75 y76 y77 y78 y79 y80 y81 y82 y83)) ∧ (∀ y0 y1 y2 y3 y4 y5 y6 y7 y8 y9 y10 y11 y12 y13 y14 y15 y16 y17 y18 y19 y20 y21 y22 y23 y24 y25 y26 y27 y28 y29 y30 y31 y32 y33 y34 y35 y36 y37 y38 y39 y40 y41 y42 y43 y44 y45 y46 y47 y48 y49 y50 y51 y52 y53 y54 y55 y56 y57 y58 y59 y60 y61 y62 y63 y64 y65 y66 y67 y68 y69 y70 y71 y72 y73 y74 y75 y76 y77 y78 y79 y80 y81 y82 y83, LeO (mezzanineref12_Pending.j3 k y0 y1 y2 y3 y4 y5 y6 y7 y8 y9 y10 y11 y12 y13 y14 y15 y16 y17 y18 y19 y20 y21 y22 y23 y24 y25 y26 y27 y28 y29 y30 y31 y32 y33 y34 y35 y36 y37 y38 y39 y40 y41 y42 y43 y44 y45 y46 y47 y48 y49 y50 y51 y52 y53 y54 y55 y56 y57 y58 y59 y60 y61 y62 y63 y64 y65 y66 y67 y68 y69 y70 y71 y72 y73 y74 y75 y76 y77 y78 y79 y80 y81 y82 y83) (mezzanineref12_Pending.j3 (k + 1) y0 y1 y2 y3 y4 y5 y6 y7 y8 y9 y10 y11 y12 y13 y14 y15 y16 y17 y18 y19 y20 y21 y22 y23 y24 y25 y26 y27 y28 y29 y30 y31 y32 y33 y34 y35 y36 y37 y38 y39 y40 y41 y42 y43 y44 y45 y46 y47 y48 y49 y50 y51 y52 y53 y54 y55 y56 y57 y58 y59 y60 y61 y62 y63 y64 y65 y66 y67 y68 y69 y70 y71 y72 y73 y74 y75 y76 y77 y78 y79 y80 y81 y82 y83)) ∧ (∀ y0 y1 y2 y3 y4 y5 y6 y7 y8 y9 y10 y11 y12 y13 y14 y15 y16 y17 y18 y19 y20 y21 y22 y23 y24 y25 y26 y27 y28 y29 y30 y31 y32 y33 y34 y35 y36 y37 y38 y39 y40 y41 y42 y43 y44 y45 y46 y47 y48 y49 y50 y51 y52 y53 y54 y55 y56 y57 y58 y59 y60 y61 y62 y63 y64 y65 y66 y67 y68 y69 y70 y71 y72 y73 y74 y75 y76 y77 y78 y79 y80 y81 y82 y83 y84, LeO (mezzanineref12_Pending.j4 k y0 y1 y2 y3 y4 y5 y6 y7 y8 y9 y10 y11 y12 y13 y14 y15 y16 y17 y18 y19 y20 y21 y22 y23 y24 y25 y26 y27 y28 y29 y30 y31 y32 y33 y34 y35 y36 y37 y38 y39 y40 y41 y42 y43 y44 y45 y46 y47 y48 y49 y50 y51 y52 y53 y54 y55 y56 y57 y58 y59 y60 y61 y62 y63 y64 y65 y66 y67 y68 y69 y70 y71 y72 y73 y74 y75 y76 y77 y78 y79 y80 y81 y82 y83 y84) (mezzanineref12_Pending.j4 (k + 1) y0 y1 y2 y3 y4 y5 y6 y7 y8 y9 y10 y11 y12 y13 y14 y15 y16 y17 y18 y19 y20 y21 y22 y23 y24 y25 y26 y27 y28 y29 y30 y31 y32 y33 y34 y35 y36 y37 y38 y39 y40 y41 y42 y43 y44 y45 y46 y47 y48 y49 y50 y51 y52 y53 y54 y55 y56 y57 y58 y59 y60 y61 y62 y63 y64 y65 y66 y67 y68 y69 y70 y71 y72 y73 y74 y75 y76 y77 y78 y79 y80 y81 y82 y83 y84))
  | 0 => ⟨fun _ _ _ _ _ _ _ _ _ _ _ _ _ _ _ _ _ _ _ _ _ _ _ _ _ _ _ _ _ _ _ _ _ _ _ _ _ _ _ _ _ _ _ _ _ _ _ _ _ _ _ _ _ _ _ _ _ _ _ _ _ _ _ _ _ _ _ _ _ _ _ _ _ _ _ _ _ _ _ _ _ _ _ _ r h => by simp [mezzanineref12_Pending.j0] at h, fun _ _ _ _ _ _ _ _ _ _ _ _ _ _ _ _ _ _ _ _ _ _ _ _ _ _ _ _ _ _ _ _ _ _ _ _ _ _ _ _ _ _ _ _ _ _ _ _ _ _ _ _ _ _ _ _ _ _ _ _ _ _ _ _ _ _ _ _ _ _ _ _ _ _ _ _ _ _ _ _ _ _ _ _ r h => by simp [mezzanineref12_Pending.j1] at h, fun _ _ _ _ _ _ _ _ _ _ _ _ _ _ _ _ _ _ _ _ _ _ _ _ _ _ _ _ _ _ _ _ _ _ _ _ _ _ _ _ _ _ _ _ _ _ _ _ _ _ _ _ _ _ _ _ _ _ _ _ _ _ _ _ _ _ _ _ _ _ _ _ _ _ _ _ _ _ _ _ _ _ _ _ r h => by simp [mezzanineref12_Pending.j2] at h, fun _ _ _ _ _ _ _ _ _ _ _ _ _ _ _ _ _ _ _ _ _ _ _ _ _ _ _ _ _ _ _ _ _ _ _ _ _ _ _ _ _ _ _ _ _ _ _ _ _ _ _ _ _ _ _ _ _ _ _ _ _ _ _ _ _ _ _ _ _ _ _ _ _ _ _ _ _ _ _ _ _ _ _ _ r h => by simp [mezzanineref12_Pending.j3] at h, fun _ _ _ _ _ _ _ _ _ _ _ _ _ _ _ _ _ _ _ _ _ _ _ _ _ _ _ _ _ _ _ _ _ _ _ _ _ _ _ _ _ _ _ _ _ _ _ _ _ _ _ _ _ _ _ _ _ _ _ _ _ _ _ _ _ _ _ _ _ _ _ _ _ _ _ _ _ _ _ _ _ _ _ _ _ r h => by simp [mezzanineref12_Pending.j4] at h⟩
  | k + 1 => by
    obtain ⟨ih0, ih1, ih2, ih3, ih4⟩ := mezzanineref12_Pending.mono_l k
    refine ⟨?_, ?_, ?_, ?_, ?_⟩
    · intro y0 y1 y2 y3 y4 y5 y6 y7 y8 y9 y10 y11 y12 y13 y14 y15 y16 y17 y18 y19 y20 y21 y22 y23 y24 y25 y26 y27 y28 y29 y30 y31 y32 y33 y34 y35 y36 y37 y38 y39 y40 y41 y42 y43 y44 y45 y46 y47 y48 y49 y50 y51 y52 y53 y54 y55 y56 y57 y58 y59 y60 y61 y62 y63 y64 y65 y66 y67 y68 y69 y70 y71 y72 y73 y74 y75 y76 y77 y78 y79 y80 y81 y82 y83
      unfold mezzanineref12_Pending.j0
      repeat' first
      | (with_reducible exact ih0 _ _ _ _ _ _ _ _ _ _ _ _ _ _ _ _ _ _ _ _ _ _ _ _ _ _ _ _ _ _ _ _ _ _ _ _ _ _ _ _ _ _ _ _ _ _ _ _ _ _ _ _ _ _ _ _ _ _ _ _ _ _ _ _ _ _ _ _ _ _ _ _ _ _ _ _ _ _ _ _ _ _ _ _)
      | (with_reducible exact ih1 _ _ _ _ _ _ _ _ _ _ _ _ _ _ _ _ _ _ _ _ _ _ _ _ _ _ _ _ _ _ _ _ _ _ _ _ _ _ _ _ _ _ _ _ _ _ _ _ _ _ _ _ _ _ _ _ _ _ _ _ _ _ _ _ _ _ _ _ _ _ _ _ _ _ _ _ _ _ _ _ _ _ _ _)
      | (with_reducible exact ih2 _ _ _ _ _ _ _ _ _ _ _ _ _ _ _ _ _ _ _ _ _ _ _ _ _ _ _ _ _ _ _ _ _ _ _ _ _ _ _ _ _ _ _ _ _ _ _ _ _ _ _ _ _ _ _ _ _ _ _ _ _ _ _ _ _ _ _ _ _ _ _ _ _ _ _ _ _ _ _ _ _ _ _ _)
      | (with_reducible exact ih3 _ _ _ _ _ _ _ _ _ _ _ _ _ _ _ _ _ _ _ _ _ _ _ _ _ _ _ _ _ _ _ _ _ _ _ _ _ _ _ _ _ _ _ _ _ _ _ _ _ _ _ _ _ _ _ _ _ _ _ _ _ _ _ _ _ _ _ _ _ _ _ _ _ _ _ _ _ _ _ _ _ _ _ _)
      | (with_reducible exact ih4 _ _ _ _ _ _ _ _ _ _ _ _ _ _ _ _ _ _ _ _ _ _ _ _ _ _ _ _ _ _ _ _ _ _ _ _ _ _ _ _ _ _ _ _ _ _ _ _ _ _ _ _ _ _ _ _ _ _ _ _ _ _ _ _ _ _ _ _ _ _ _ _ _ _ _ _ _ _ _ _ _ _ _ _ _)
      | (with_reducible exact LeO.refl _)
      | (with_reducible exact LeO.none _)
      | (with_reducible refine LeO.ite ?_ ?_)
      | (with_reducible refine LeO.bind ?_ (fun _ => ?_))
      | exact ih0 _ _ _ _ _ _ _ _ _ _ _ _ _ _ _ _ _ _ _ _ _ _ _ _ _ _ _ _ _ _ _ _ _ _ _ _ _ _ _ _ _ _ _ _ _ _ _ _ _ _ _ _ _ _ _ _ _ _ _ _ _ _ _ _ _ _ _ _ _ _ _ _ _ _ _ _ _ _ _ _ _ _ _ _
      | exact ih1 _ _ _ _ _ _ _ _ _ _ _ _ _ _ _ _ _ _ _ _ _ _ _ _ _ _ _ _ _ _ _ _ _ _ _ _ _ _ _ _ _ _ _ _ _ _ _ _ _ _ _ _ _ _ _ _ _ _ _ _ _ _ _ _ _ _ _ _ _ _ _ _ _ _ _ _ _ _ _ _ _ _ _ _
      | exact ih2 _ _ _ _ _ _ _ _ _ _ _ _ _ _ _ _ _ _ _ _ _ _ _ _ _ _ _ _ _ _ _ _ _ _ _ _ _ _ _ _ _ _ _ _ _ _ _ _ _ _ _ _ _ _ _ _ _ _ _ _ _ _ _ _ _ _ _ _ _ _ _ _ _ _ _ _ _ _ _ _ _ _ _ _
      | exact ih3 _ _ _ _ _ _ _ _ _ _ _ _ _ _ _ _ _ _ _ _ _ _ _ _ _ _ _ _ _ _ _ _ _ _ _ _ _ _ _ _ _ _ _ _ _ _ _ _ _ _ _ _ _ _ _ _ _ _ _ _ _ _ _ _ _ _ _ _ _ _ _ _ _ _ _ _ _ _ _ _ _ _ _ _
      | exact ih4 _ _ _ _ _ _ _ _ _ _ _ _ _ _ _ _ _ _ _ _ _ _ _ _ _ _ _ _ _ _ _ _ _ _ _ _ _ _ _ _ _ _ _ _ _ _ _ _ _ _ _ _ _ _ _ _ _ _ _ _ _ _ _ _ _ _ _ _ _ _ _ _ _ _ _ _ _ _ _ _ _ _ _ _ _
      | exact LeO.none _
      | refine LeO.ite ?_ ?_
      | refine LeO.bind ?_ (fun _ => ?_)
    · intro y0 y1 y2 y3 y4 y5 y6 y7 y8 y9 y10 y11 y12 y13 y14 y15 y16 y17 y18 y19 y20 y21 y22 y23 y24 y25 y26 y27 y28 y29 y30 y31 y32 y33 y34 y35 y36 y37 y38 y39 y40 y41 y42 y43 y44 y45 y46 y47 y48 y49 y50 y51 y52 y53 y54 y55 y56 y57 y58 y59 y60 y61 y62 y63 y64 y65 y66 y67 y68 y69 y70 y71 y72 y73 y74 y75 y76 y77 y78 y79 y80 y81 y82 y83
      unfold mezzanineref12_Pending.j1
      repeat' first
      | (with_reducible exact ih0 _ _ _ _ _ _ _ _ _ _ _ _ _ _ _ _ _ _ _ _ _ _ _ _ _ _ _ _ _ _ _ _ _ _ _ _ _ _ _ _ _ _ _ _ _ _ _ _ _ _ _ _ _ _ _ _ _ _ _ _ _ _ _ _ _ _ _ _ _ _ _ _ _ _ _ _ _ _ _ _ _ _ _ _)
      | (with_reducible exact ih1 _ _ _ _ _ _ _ _ _ _ _ _ _ _ _ _ _ _ _ _ _ _ _ _ _ _ _ _ _ _ _ _ _ _ _ _ _ _ _ _ _ _ _ _ _ _ _ _ _ _ _ _ _ _ _ _ _ _ _ _ _ _ _ _ _ _ _ _ _ _ _ _ _ _ _ _ _ _ _ _ _ _ _ _)
      | (with_reducible exact ih2 _ _ _ _ _ _ _ _ _ _ _ _ _ _ _ _ _ _ _ _ _ _ _ _ _ _ _ _ _ _ _ _ _ _ _ _ _ _ _ _ _ _ _ _ _ _ _ _ _ _ _ _ _ _ _ _ _ _ _ _ _ _ _ _ _ _ _ _ _ _ _ _ _ _ _ _ _ _ _ _ _ _ _ _)
      | (with_reducible exact ih3 _ _ _ _ _ _ _ _ _ _ _ _ _ _ _ _ _ _ _ _ _ _ _ _ _ _ _ _ _ _ _ _ _ _ _ _ _ _ _ _ _ _ _ _ _ _ _ _ _ _ _ _ _ _ _ _ _ _ _ _ _ _ _ _ _ _ _ _ _ _ _ _ _ _ _ _ _ _ _ _ _ _ _ _)
      | (with_reducible exact ih4 _ _ _ _ _ _ _ _ _ _ _ _ _ _ _ _ _ _ _ _ _ _ _ _ _ _ _ _ _ _ _ _ _ _ _ _ _ _ _ _ _ _ _ _ _ _ _ _ _ _ _ _ _ _ _ _ _ _ _ _ _ _ _ _ _ _ _ _ _ _ _ _ _ _ _ _ _ _ _ _ _ _ _ _ _)
      | (with_reducible exact LeO.refl _)
      | (with_reducible exact LeO.none _)
      | (with_reducible refine LeO.ite ?_ ?_)
      | (with_reducible refine LeO.bind ?_ (fun _ => ?_))
      | exact ih0 _ _ _ _ _ _ _ _ _ _ _ _ _ _ _ _ _ _ _ _ _ _ _ _ _ _ _ _ _ _ _ _ _ _ _ _ _ _ _ _ _ _ _ _ _ _ _ _ _ _ _ _ _ _ _ _ _ _ _ _ _ _ _ _ _ _ _ _ _ _ _ _ _ _ _ _ _ _ _ _ _ _ _ _
      | exact ih1 _ _ _ _ _ _ _ _ _ _ _ _ _ _ _ _ _ _ _ _ _ _ _ _ _ _ _ _ _ _ _ _ _ _ _ _ _ _ _ _ _ _ _ _ _ _ _ _ _ _ _ _ _ _ _ _ _ _ _ _ _ _ _ _ _ _ _ _ _ _ _ _ _ _ _ _ _ _ _ _ _ _ _ _
      | exact ih2 _ _ _ _ _ _ _ _ _ _ _ _ _ _ _ _ _ _ _ _ _ _ _ _ _ _ _ _ _ _ _ _ _ _ _ _ _ _ _ _ _ _ _ _ _ _ _ _ _ _ _ _ _ _ _ _ _ _ _ _ _ _ _ _ _ _ _ _ _ _ _ _ _ _ _ _ _ _ _ _ _ _ _ _
      | exact ih3 _ _ _ _ _ _ _ _ _ _ _ _ _ _ _ _ _ _ _ _ _ _ _ _ _ _ _ _ _ _ _ _ _ _ _ _ _ _ _ _ _ _ _ _ _ _ _ _ _ _ _ _ _ _ _ _ _ _ _ _ _ _ _ _ _ _ _ _ _ _ _ _ _ _ _ _ _ _ _ _ _ _ _ _
      | exact ih4 _ _ _ _ _ _ _ _ _ _ _ _ _ _ _ _ _ _ _ _ _ _ _ _ _ _ _ _ _ _ _ _ _ _ _ _ _ _ _ _ _ _ _ _ _ _ _ _ _ _ _ _ _ _ _ _ _ _ _ _ _ _ _ _ _ _ _ _ _ _ _ _ _ _ _ _ _ _ _ _ _ _ _ _ _
      | exact LeO.none _
      | refine LeO.ite ?_ ?_
      | refine LeO.bind ?_ (fun _ => ?_)
    · intro y0 y1 y2 y3 y4 y5 y6 y7 y8 y9 y10 y11 y12 y13 y14 y15 y16 y17 y18 y19 y20 y21 y22 y23 y24 y25 y26 y27 y28 y29 y30 y31 y32 y33 y34 y35 y36 y37 y38 y39 y40 y41 y42 y43 y44 y45 y46 y47 y48 y49 y50 y51 y52 y53 y54 y55 y56 y57 y58 y59 y60 y61 y62 y63 y64 y65 y66 y67 y68 y69 y70 y71 y72 y73 y74 y75 y76 y77 y78 y79 y80 y81 y82 y83
      unfold mezzanineref12_Pending.j2
      repeat' first
      | (with_reducible exact ih0 _ _ _ _ _ _ _ _ _ _ _ _ _ _ _ _ _ _ _ _ _ _ _ _ _ _ _ _ _ _ _ _ _ _ _ _ _ _ _ _ _ _ _ _ _ _ _ _ _ _ _ _ _ _ _ _ _ _ _ _ _ _ _ _ _ _ _ _ _ _ _ _ _ _ _ _ _ _ _ _ _ _ _ _)
      | (with_reducible exact ih1 _ _ _ _ _ _ _ _ _ _ _ _ _ _ _ _ _ _ _ _ _ _ _ _ _ _ _ _ _ _ _ _ _ _ _ _ _ _ _ _ _ _ _ _ _ _ _ _ _ _ _ _ _ _ _ _ _ _ _ _ _ _ _ _ _ _ _ _ _ _ _ _ _ _ _ _ _ _ _ _ _ _ _ _)
      | (with_reducible exact ih2 _ _ _ _ _ _ _ _ _ _ _ _ _ _ _ _ _ _ _ _ _ _ _ _ _ _ _ _ _ _ _ _ _ _ _ _ _ _ _ _ _ _ _ _ _ _ _ _ _ _ _ _ _ _ _ _ _ _ _ _ _ _ _ _ _ _ _ _ _ _ _ _ _ _ _ _ _ _ _ _ _ _ _ _)
      | (with_reducible exact ih3 _ _ _ _ _ _ _ _ _ _ _ _ _ _ _ _ _ _ _ _ _ _ _ _ _ _ _ _ _ _ _ _ _ _ _ _ _ _ _ _ _ _ _ _ _ _ _ _ _ _ _ _ _ _ _ _ _ _ _ _ _ _ _ _ _ _ _ _ _ _ _ _ _ _ _ _ _ _ _ _ _ _ _ _)
      | (with_reducible exact ih4 _ _ _ _ _ _ _ _ _ _ _ _ _ _ _ _ _ _ _ _ _ _ _ _ _ _ _ _ _ _ _ _ _ _ _ _ _ _ _ _ _ _ _ _ _ _ _ _ _ _ _ _ _ _ _ _ _ _ _ _ _ _ _ _ _ _ _ _ _ _ _ _ _ _ _ _ _ _ _ _ _ _ _ _ _)
      | (with_reducible exact LeO.refl _)
      | (with_reducible exact LeO.none _)
      | (with_reducible refine LeO.ite ?_ ?_)
      | (with_reducible refine LeO.bind ?_ (fun _ => ?_))
      | exact ih0 _ _ _ _ _ _ _ _ _ _ _ _ _ _ _ _ _ _ _ _ _ _ _ _ _ _ _ _ _ _ _ _ _ _ _ _ _ _ _ _ _ _ _ _ _ _ _ _ _ _ _ _ _ _ _ _ _ _ _ _ _ _ _ _ _ _ _ _ _ _ _ _ _ _ _ _ _ _ _ _ _ _ _ _
      | exact ih1 _ _ _ _ _ _ _ _ _ _ _ _ _ _ _ _ _ _ _ _ _ _ _ _ _ _ _ _ _ _ _ _ _ _ _ _ _ _ _ _ _ _ _ _ _ _ _ _ _ _ _ _ _ _ _ _ _ _ _ _ _ _ _ _ _ _ _ _ _ _ _ _ _ _ _ _ _ _ _ _ _ _ _ _
      | exact ih2 _ _ _ _ _ _ _ _ _ _ _ _ _ _ _ _ _ _ _ _ _ _ _ _ _ _ _ _ _ _ _ _ _ _ _ _ _ _ _ _ _ _ _ _ _ _ _ _ _ _ _ _ _ _ _ _ _ _ _ _ _ _ _ _ _ _ _ _ _ _ _ _ _ _ _ _ _ _ _ _ _ _ _ _
      | exact ih3 _ _ _ _ _ _ _ _ _ _ _ _ _ _ _ _ _ _ _ _ _ _ _ _ _ _ _ _ _ _ _ _ _ _ _ _ _ _ _ _ _ _ _ _ _ _ _ _ _ _ _ _ _ _ _ _ _ _ _ _ _ _ _ _ _ _ _ _ _ _ _ _ _ _ _ _ _ _ _ _ _ _ _ _
      | exact ih4 _ _ _ _ _ _ _ _ _ _ _ _ _ _ _ _ _ _ _ _ _ _ _ _ _ _ _ _ _ _ _ _ _ _ _ _ _ _ _ _ _ _ _ _ _ _ _ _ _ _ _ _ _ _ _ _ _ _ _ _ _ _ _ _ _ _ _ _ _ _ _ _ _ _ _ _ _ _ _ _ _ _ _ _ _
      | exact LeO.none _
      | refine LeO.ite ?_ ?_
      | refine LeO.bind ?_ (fun _ => ?_)
    · intro y0 y1 y2 y3 y4 y5 y6 y7 y8 y9 y10 y11 y12 y13 y14 y15 y16 y17 y18 y19 y20 y21 y22 y23 y24 y25 y26 y27 y28 y29 y30 y31 y32 y33 y34 y35 y36 y37 y38 y39 y40 y41 y42 y43 y44 y45 y46 y47 y48 y49 y50 y51 y52 y53 y54 y55 y56 y57 y58 y59 y60 y61 y62 y63 y64 y65 y66 y67 y68 y69 y70 y71 y72 y73 y74 y75 y76 y77 y78 y79 y80 y81 y82 y83
      unfold mezzanineref12_Pending.j3
      repeat' first
      | (with_reducible exact ih0 _ _ _ _ _ _ _ _ _ _ _ _ _ _ _ _ _ _ _ _ _ _ _ _ _ _ _ _ _ _ _ _ _ _ _ _ _ _ _ _ _ _ _ _ _ _ _ _ _ _ _ _ _ _ _ _ _ _ _ _ _ _ _ _ _ _ _ _ _ _ _ _ _ _ _ _ _ _ _ _ _ _ _ _)
      | (with_reducible exact ih1 _ _ _ _ _ _ _ _ _ _ _ _ _ _ _ _ _ _ _ _ _ _ _ _ _ _ _ _ _ _ _ _ _ _ _ _ _ _ _ _ _ _ _ _ _ _ _ _ _ _ _ _ _ _ _ _ _ _ _ _ _ _ _ _ _ _ _ _ _ _ _ _ _ _ _ _ _ _ _ _ _ _ _ _)
      | (with_reducible exact ih2 _ _ _ _ _ _ _ _ _ _ _ _ _ _ _ _ _ _ _ _ _ _ _ _ _ _ _ _ _ _ _ _ _ _ _ _ _ _ _ _ _ _ _ _ _ _ _ _ _ _ _ _ _ _ _ _ _ _ _ _ _ _ _ _ _ _ _ _ _ _ _ _ _ _ _ _ _ _ _ _ _ _ _ _)
      | (with_reducible exact ih3 _ _ _ _ _ _ _ _ _ _ _ _ _ _ _ _ _ _ _ _ _ _ _ _ _ _ _ _ _ _ _ _ _ _ _ _ _ _ _ _ _ _ _ _ _ _ _ _ _ _ _ _ _ _ _ _ _ _ _ _ _ _ _ _ _ _ _ _ _ _ _ _ _ _ _ _ _ _ _ _ _ _ _ _)
      | (with_reducible exact ih4 _ _ _ _ _ _ _ _ _ _ _ _ _ _ _ _ _ _ _ _ _ _ _ _ _ _ _ _ _ _ _ _ _ _ _ _ _ _ _ _ _ _ _ _ _ _ _ _ _ _ _ _ _ _ _ _ _ _ _ _ _ _ _ _ _ _ _ _ _ _ _ _ _ _ _ _ _ _ _ _ _ _ _ _ _)
      | (with_reducible exact LeO.refl _)
      | (with_reducible exact LeO.none _)
      | (with_reducible refine LeO.ite ?_ ?_)
      | (with_reducible refine LeO.bind ?_ (fun _ => ?_))
      | exact ih0 _ _ _ _ _ _ _ _ _ _ _ _ _ _ _ _ _ _ _ _ _ _ _ _ _ _ _ _ _ _ _ _ _ _ _ _ _ _ _ _ _ _ _ _ _ _ _ _ _ _ _ _ _ _ _ _ _ _ _ _ _ _ _ _ _ _ _ _ _ _ _ _ _ _ _ _ _ _ _ _ _ _ _ _
      | exact ih1 _ _ _ _ _ _ _ _ _ _ _ _ _ _ _ _ _ _ _ _ _ _ _ _ _ _ _ _ _ _ _ _ _ _ _ _ _ _ _ _ _ _ _ _ _ _ _ _ _ _ _ _ _ _ _ _ _ _ _ _ _ _ _ _ _ _ _ _ _ _ _ _ _ _ _ _ _ _ _ _ _ _ _ _
      | exact ih2 _ _ _ _ _ _ _ _ _ _ _ _ _ _ _ _ _ _ _ _ _ _ _ _ _ _ _ _ _ _ _ _ _ _ _ _ _ _ _ _ _ _ _ _ _ _ _ _ _ _ _ _ _ _ _ _ _ _ _ _ _ _ _ _ _ _ _ _ _ _ _ _ _ _ _ _ _ _ _ _ _ _ _ _
      | exact ih3 _ _ _ _ _ _ _ _ _ _ _ _ _ _ _ _ _ _ _ _ _ _ _ _ _ _ _ _ _ _ _ _ _ _ _ _ _ _ _ _ _ _ _ _ _ _ _ _ _ _ _ _ _ _ _ _ _ _ _ _ _ _ _ _ _ _ _ _ _ _ _ _ _ _ _ _ _ _ _ _ _ _ _ _
      | exact ih4 _ _ _ _ _ _ _ _ _ _ _ _ _ _ _ _ _ _ _ _ _ _ _ _ _ _ _ _ _ _ _ _ _ _ _ _ _ _ _ _ _ _ _ _ _ _ _ _ _ _ _ _ _ _ _ _ _ _ _ _ _ _ _ _ _ _ _ _ _ _ _ _ _ _ _ _ _ _ _ _ _ _ _ _ _
      | exact LeO.none _
      | refine LeO.ite ?_ ?_
      | refine LeO.bind ?_ (fun _ => ?_)
    · intro y0 y1 y2 y3 y4 y5 y6 y7 y8 y9 y10 y11 y12 y13 y14 y15 y16 y17 y18 y19 y20 y21 y22 y23 y24 y25 y26 y27 y28 y29 y30 y31 y32 y33 y34 y35 y36 y37 y38 y39 y40 y41 y42 y43 y44 y45 y46 y47 y48 y49 y50 y51 y52 y53 y54 y55 y56 y57 y58 y59 y60 y61 y62 y63 y64 y65 y66 y67 y68 y69 y70 y71 y72 y73 y74 y75 y76 y77 y78 y79 y80 y81 y82 y83 y84
      unfold mezzanineref12_Pending.j4
      repeat' first
      | (with_reducible exact ih0 _ _ _ _ _ _ _ _ _ _ _ _ _ _ _ _ _ _ _ _ _ _ _ _ _ _ _ _ _ _ _ _ _ _ _ _ _ _ _ _ _ _ _ _ _ _ _ _ _ _ _ _ _ _ _ _ _ _ _ _ _ _ _ _ _ _ _ _ _ _ _ _ _ _ _ _ _ _ _ _ _ _ _ _)
      | (with_reducible exact ih1 _ _ _ _ _ _ _ _ _ _ _ _ _ _ _ _ _ _ _ _ _ _ _ _ _ _ _ _ _ _ _ _ _ _ _ _ _ _ _ _ _ _ _ _ _ _ _ _ _ _ _ _ _ _ _ _ _ _ _ _ _ _ _ _ _ _ _ _ _ _ _ _ _ _ _ _ _ _ _ _ _ _ _ _)
      | (with_reducible exact ih2 _ _ _ _ _ _ _ _ _ _ _ _ _ _ _ _ _ _ _ _ _ _ _ _ _ _ _ _ _ _ _ _ _ _ _ _ _ _ _ _ _ _ _ _ _ _ _ _ _ _ _ _ _ _ _ _ _ _ _ _ _ _ _ _ _ _ _ _ _ _ _ _ _ _ _ _ _ _ _ _ _ _ _ _)
      | (with_reducible exact ih3 _ _ _ _ _ _ _ _ _ _ _ _ _ _ _ _ _ _ _ _ _ _ _ _ _ _ _ _ _ _ _ _ _ _ _ _ _ _ _ _ _ _ _ _ _ _ _ _ _ _ _ _ _ _ _ _ _ _ _ _ _ _ _ _ _ _ _ _ _ _ _ _ _ _ _ _ _ _ _ _ _ _ _ _)
      | (with_reducible exact ih4 _ _ _ _ _ _ _ _ _ _ _ _ _ _ _ _ _ _ _ _ _ _ _ _ _ _ _ _ _ _ _ _ _ _ _ _ _ _ _ _ _ _ _ _ _ _ _ _ _ _ _ _ _ _ _ _ _ _ _ _ _ _ _ _ _ _ _ _ _ _ _ _ _ _ _ _ _ _ _ _ _ _ _ _ _)
      | (with_reducible exact LeO.refl _)
      | (with_reducible exact LeO.none _)
      | (with_reducible refine LeO.ite ?_ ?_)
      | (with_reducible refine LeO.bind ?_ (fun _ => ?_))
      | exact ih0 _ _ _ _ _ _ _ _ _ _ _ _ _ _ _ _ _ _ _ _ _ _ _ _ _ _ _ _ _ _ _ _ _ _ _ _ _ _ _ _ _ _ _ _ _ _ _ _ _ _ _ _ _ _ _ _ _ _ _ _ _ _ _ _ _ _ _ _ _ _ _ _ _ _ _ _ _ _ _ _ _ _ _ _
      | exact ih1 _ _ _ _ _ _ _ _ _ _ _ _ _ _ _ _ _ _ _ _ _ _ _ _ _ _ _ _ _ _ _ _ _ _ _ _ _ _ _ _ _ _ _ _ _ _ _ _ _ _ _ _ _ _ _ _ _ _ _ _ _ _ _ _ _ _ _ _ _ _ _ _ _ _ _ _ _ _ _ _ _ _ _ _
      | exact ih2 _ _ _ _ _ _ _ _ _ _ _ _ _ _ _ _ _ _ _ _ _ _ _ _ _ _ _ _ _ _ _ _ _ _ _ _ _ _ _ _ _ _ _ _ _ _ _ _ _ _ _ _ _ _ _ _ _ _ _ _ _ _ _ _ _ _ _ _ _ _ _ _ _ _ _ _ _ _ _ _ _ _ _ _
      | exact ih3 _ _ _ _ _ _ _ _ _ _ _ _ _ _ _ _ _ _ _ _ _ _ _ _ _ _ _ _ _ _ _ _ _ _ _ _ _ _ _ _ _ _ _ _ _ _ _ _ _ _ _ _ _ _ _ _ _ _ _ _ _ _ _ _ _ _ _ _ _ _ _ _ _ _ _ _ _ _ _ _ _ _ _ _
      | exact ih4 _ _ _ _ _ _ _ _ _ _ _ _ _ _ _ _ _ _ _ _ _ _ _ _ _ _ _ _ _ _ _ _ _ _ _ _ _ _ _ _ _ _ _ _ _ _ _ _ _ _ _ _ _ _ _ _ _ _ _ _ _ _ _ _ _ _ _ _ _ _ _ _ _ _ _ _ _ _ _ _ _ _ _ _ _
      | exact LeO.none _
      | refine LeO.ite ?_ ?_
      | refine LeO.bind ?_ (fun _ => ?_)
theorem mezzanineref12_Pending.mono : ∀ a0 a1 a2 a3 a4 a5 a6 a7 a8 a9 a10 a11 a12 a13 a14 a15 a16 a17 a18 a19 a20 a21 a22 a23 a24 a25 a26 a27 a28 a29 a30 a31 a32 a33 a34 a35 a36 a37 a38 a39 a40 a41 a42 a43 a44 a45 a46 a47 a48 a49 a50 a51 a52 a53 a54 a55 a56 a57 a58 a59 a60 a61 a62 a63 a64 a65 a66 a67 a68 a69 a70 a71 a72 a73 a74 a75 a76 a77 a78 a79 a80 a81 a82 k, LeO (mezzanineref12_Pending.f k a0 a1 a2 a3 a4 a5 a6 a7 a8 a9 a10 a11 a12 a13 a14 a15 a16 a17 a18 a19 a20 a21 a22 a23 a24 a25 a26 a27 a28 a29 a30 a31 a32 a33 a34 a35 a36 a37 a38 a39 a40 a41 a42 a43 a44 a45 a46 a47 a48 a49 a50 a51 a52 a53 a54 a55 a56 a57 a58 a59 a60 a61 a62 a63 a64 a65 a66 a67 a68 a69 a70 a71 a72 a73 a74 a75 a76 a77 a78 a79 a80 a81 a82) (mezzanineref12_Pending.f (k + 1) a0 a1 a2 a3 a4 a5 a6 a7 a8 a9 a10 a11 a12 a13 a14 a15 a16 a17 a18 a19 a20 a21 a22 a23 a24 a25 a26 a27 a28 a29 a30 a31 a32 a33 a34 a35 a36 a37 a38 a39 a40 a41 a42 a43 a44 a45 a46 a47 a48 a49 a50 a51 a52 a53 a54 a55 a56 a57 a58 a59 a60 a61 a62 a63 a64 a65 a66 a67 a68 a69 a70 a71 a72 a73 a74 a75 a76 a77 a78 a79 a80 a81 a82) := by
  intro a0 a1 a2 a3 a4 a5 a6 a7 a8 a9 a10 a11 a12 a13 a14 a15 a16 a17 a18 a19 a20 a21 a22 a23 a24 a25 a26 a27 a28 a29 a30 a31 a32 a33 a34 a35 a36 a37 a38 a39 a40 a41 a42 a43 a44 a45 a46 a47 a48 a49 a50 a51 a52 a53 a54 a55 a56 a57 a58 a59 a60 a61 a62 a63 a64 a65 a66 a67 a68 a69 a70 a71 a72 a73 a74 a75 a76 a77 a78 a79 a80 a81 a82 k
  obtain ⟨ih0, ih1, ih2, ih3, ih4⟩ := mezzanineref12_Pending.mono_l k
  unfold mezzanineref12_Pending.f
  repeat' first
      | (with_reducible exact ih0 _ _ _ _ _ _ _ _ _ _ _ _ _ _ _ _ _ _ _ _ _ _ _ _ _ _ _ _ _ _ _ _ _ _ _ _ _ _ _ _ _ _ _ _ _ _ _ _ _ _ _ _ _ _ _ _ _ _ _ _ _ _ _ _ _ _ _ _ _ _ _ _ _ _ _ _ _ _ _ _ _ _ _ _)
      | (with_reducible exact ih1 _ _ _ _ _ _ _ _ _ _ _ _ _ _ _ _ _ _ _ _ _ _ _ _ _ _ _ _ _ _ _ _ _ _ _ _ _ _ _ _ _ _ _ _ _ _ _ _ _ _ _ _ _ _ _ _ _ _ _ _ _ _ _ _ _ _ _ _ _ _ _ _ _ _ _ _ _ _ _ _ _ _ _ _)
      | (with_reducible exact ih2 _ _ _ _ _ _ _ _ _ _ _ _ _ _ _ _ _ _ _ _ _ _ _ _ _ _ _ _ _ _ _ _ _ _ _ _ _ _ _ _ _ _ _ _ _ _ _ _ _ _ _ _ _ _ _ _ _ _ _ _ _ _ _ _ _ _ _ _ _ _ _ _ _ _ _ _ _ _ _ _ _ _ _ _)
      | (with_reducible exact ih3 _ _ _ _ _ _ _ _ _ _ _ _ _ _ _ _ _ _ _ _ _ _ _ _ _ _ _ _ _ _ _ _ _ _ _ _ _ _ _ _ _ _ _ _ _ _ _ _ _ _ _ _ _ _ _ _ _ _ _ _ _ _ _ _ _ _ _ _ _ _ _ _ _ _ _ _ _ _ _ _ _ _ _ _)
      | (with_reducible exact ih4 _ _ _ _ _ _ _ _ _ _ _ _ _ _ _ _ _ _ _ _ _ _ _ _ _ _ _ _ _ _ _ _ _ _ _ _ _ _ _ _ _ _ _ _ _ _ _ _ _ _ _ _ _ _ _ _ _ _ _ _ _ _ _ _ _ _ _ _ _ _ _ _ _ _ _ _ _ _ _ _ _ _ _ _ _)
      | (with_reducible exact LeO.refl _)
      | (with_reducible exact LeO.none _)
      | (with_reducible refine LeO.ite ?_ ?_)
      | (with_reducible refine LeO.bind ?_ (fun _ => ?_))
      | exact ih0 _ _ _ _ _ _ _ _ _ _ _ _ _ _ _ _ _ _ _ _ _ _ _ _ _ _ _ _ _ _ _ _ _ _ _ _ _ _ _ _ _ _ _ _ _ _ _ _ _ _ _ _ _ _ _ _ _ _ _ _ _ _ _ _ _ _ _ _ _ _ _ _ _ _ _ _ _ _ _ _ _ _ _ _
      | exact ih1 _ _ _ _ _ _ _ _ _ _ _ _ _ _ _ _ _ _ _ _ _ _ _ _ _ _ _ _ _ _ _ _ _ _ _ _ _ _ _ _ _ _ _ _ _ _ _ _ _ _ _ _ _ _ _ _ _ _ _ _ _ _ _ _ _ _ _ _ _ _ _ _ _ _ _ _ _ _ _ _ _ _ _ _
      | exact ih2 _ _ _ _ _ _ _ _ _ _ _ _ _ _ _ _ _ _ _ _ _ _ _ _ _ _ _ _ _ _ _ _ _ _ _ _ _ _ _ _ _ _ _ _ _ _ _ _ _ _ _ _ _ _ _ _ _ _ _ _ _ _ _ _ _ _ _ _ _ _ _ _ _ _ _ _ _ _ _ _ _ _ _ _
      | exact ih3 _ _ _ _ _ _ _ _ _ _ _ _ _ _ _ _ _ _ _ _ _ _ _ _ _ _ _ _ _ _ _ _ _ _ _ _ _ _ _ _ _ _ _ _ _ _ _ _ _ _ _ _ _ _ _ _ _ _ _ _ _ _ _ _ _ _ _ _ _ _ _ _ _ _ _ _ _ _ _ _ _ _ _ _
      | exact ih4 _ _ _ _ _ _ _ _ _ _ _ _ _ _ _ _ _ _ _ _ _ _ _ _ _ _ _ _ _ _ _ _ _ _ _ _ _ _ _ _ _ _ _ _ _ _ _ _ _ _ _ _ _ _ _ _ _ _ _ _ _ _ _ _ _ _ _ _ _ _ _ _ _ _ _ _ _ _ _ _ _ _ _ _ _
      | exact LeO.none _
      | refine LeO.ite ?_ ?_
      | refine LeO.bind ?_ (fun _ => ?_)
set_option maxHeartbeats 8000000 in
set_option maxRecDepth 100000 in
theorem mezzanineref12_Pending.calls (k : Nat) (a0_0 : Int) (a0_1 : Int) (a0_2 : Int) (a0_3 : Int) (a0_4 : Int) (a0_5 : Int) (a0_6 : Int) (a0_7 : Int) (a0_8 : Int) (a0_9 : Int) (a0_10 : Int) (a0_11 : Int) (a0_12 : Int) (a0_13 : Int) (a0_14 : Int) (a0_15 : Int) (a0_16 : Int) (a0_17 : Int) (a0_18 : Int) (a0_19 : Int) (a0_20 : Int) (a0_21 : Int) (a0_22 : Int) (a0_23 : Int) (a0_24 : Int) (a0_25 : Int) (a0_26 : Int) (a0_27 : Int) (a0_28 : Int) (a0_29 : Int) (a0_30 : Int) (a0_31 : Int) (a0_32 : Int) (a0_33 : Int) (a0_34 : Bool) (a0_35 : Bool) (a0_36 : Bool) (a0_37 : Int) (a0_38 : Int) (a0_39 : Int) (a0_40 : Int) (a0_41 : Int) (a0_42 : Int) (a0_43 : Int) (a0_44 : Int) (a0_45 : Int) (a0_46 : Int) (a0_47 : Int) (a0_48 : Int) (a0_49 : Int) (a0_50 : Int) (a0_51 : Int) (a0_52 : Int) (a0_53 : Int) (a0_54 : Int) (a0_55 : Int) (a0_56 : Int) (a0_57 : Int) (a0_58 : Int) (a0_59 : Int) (a0_60 : Int) (a0_61 : Int) (a0_62 : Int) (a0_63 : Int) (a0_64 : Int) (a0_65 : Int) (a0_66 : Int) (a0_67 : Int) (a0_68 : Int) (a0_69 : Int) (a0_70 : Int) (a0_71 : Int) (a0_72 : Int) (a0_73 : Int) (a0_74 : Int) (a0_75 : Int) (a0_76 : Int) (a1_0 : Bool) (a1_1 : Bool) (a1_2 : Bool) (a1_3 : Bool) (a1_4 : Int) (a1_5 : Int) (r : Int) (w : World) (h : mezzanineref12_Pending.f k a0_0 a0_1 a0_2 a0_3 a0_4 a0_5 a0_6 a0_7 a0_8 a0_9 a0_10 a0_11 a0_12 a0_13 a0_14 a0_15 a0_16 a0_17 a0_18 a0_19 a0_20 a0_21 a0_22 a0_23 a0_24 a0_25 a0_26 a0_27 a0_28 a0_29 a0_30 a0_31 a0_32 a0_33 a0_34 a0_35 a0_36 a0_37 a0_38 a0_39 a0_40 a0_41 a0_42 a0_43 a0_44 a0_45 a0_46 a0_47 a0_48 a0_49 a0_50 a0_51 a0_52 a0_53 a0_54 a0_55 a0_56 a0_57 a0_58 a0_59 a0_60 a0_61 a0_62 a0_63 a0_64 a0_65 a0_66 a0_67 a0_68 a0_69 a0_70 a0_71 a0_72 a0_73 a0_74 a0_75 a0_76 a1_0 a1_1 a1_2 a1_3 a1_4 a1_5 = some r) :
    Calls Tryd.prog 18 #[.agg #[.int .u64 a0_0, .int .u64 a0_1, .int .u64 a0_2, .int .u64 a0_3, .int .u64 a0_4, .int .u64 a0_5, .int .u64 a0_6, .int .u64 a0_7, .int .u64 a0_8, .int .u64 a0_9, .int .u64 a0_10, .int .u64 a0_11, .int .u64 a0_12, .int .u64 a0_13, .int .u64 a0_14, .int .u64 a0_15, .int .u64 a0_16, .int .u64 a0_17, .int .u64 a0_18, .int .u64 a0_19, .int .u64 a0_20, .int .u64 a0_21, .int .u64 a0_22, .int .u64 a0_23, .int .u64 a0_24, .int .u64 a0_25, .int .u64 a0_26, .int .u64 a0_27, .int .u64 a0_28, .int .u64 a0_29, .int .u64 a0_30, .int .u64 a0_31, .int .u64 a0_32, .int .u8 a0_33, .bool a0_34, .bool a0_35, .bool a0_36, .int .u64 a0_37, .int .u64 a0_38, .int .u64 a0_39, .int .u64 a0_40, .int .u64 a0_41, .int .u64 a0_42, .int .u64 a0_43, .int .u64 a0_44, .int .u64 a0_45, .int .u64 a0_46, .int .u64 a0_47, .int .u64 a0_48, .int .u64 a0_49, .int .u64 a0_50, .int .u64 a0_51, .int .u64 a0_52, .int .u64 a0_53, .int .u64 a0_54, .int .u64 a0_55, .int .u64 a0_56, .int .u64 a0_57, .int .u64 a0_58, .int .u64 a0_59, .int .u64 a0_60, .int .u64 a0_61, .int .u64 a0_62, .int .u64 a0_63, .int .u64 a0_64, .int .u64 a0_65, .int .u64 a0_66, .int .u64 a0_67, .int .u64 a0_68, .int .u64 a0_69, .int .u64 a0_70, .int .u64 a0_71, .int .u64 a0_72, .int .u64 a0_73, .int .u64 a0_74, .int .u64 a0_75, .int .u64 a0_76], .agg #[.bool a1_0, .bool a1_1, .bool a1_2, .bool a1_3, .int .u64 a1_4, .int .u64 a1_5]] w fun e w' => e = .returned (.int .u64 r) ∧ Below w.heap.size w w' := by
  have hu25 := Tryd.underlying25
  have hu27 := Tryd.underlying27
  have HB := Aside0.mk (Below.refl w.heap.size w)
  have H : (if a1_0 = true then (mezzanineref12_Pending.j0 k (Go.bits .or .u64 (Go.bits .or .u64 a0_42 a0_61) 8) a0_0 a0_1 a0_2 a0_3 a0_4 a0_5 a0_6 a0_7 a0_8 a0_9 a0_10 a0_11 a0_12 a0_13 a0_14 a0_15 a0_16 a0_17 a0_18 a0_19 a0_20 a0_21 a0_22 a0_23 a0_24 a0_25 a0_26 a0_27 a0_28 a0_29 a0_30 a0_31 a0_32 a0_33 a0_34 a0_35 a0_36 a0_37 a0_38 a0_39 a0_40 a0_41 a0_42 a0_43 a0_44 a0_45 a0_46 a0_47 a0_48 a0_49 a0_50 a0_51 a0_52 a0_53 a0_54 a0_55 a0_56 a0_57 a0_58 a0_59 a0_60 a0_61 a0_62 a0_63 a0_64 a0_65 a0_66 a0_67 a0_68 a0_69 a0_70 a0_71 a0_72 a0_73 a0_74 a0_75 a0_76 a1_0 a1_1 a1_2 a1_3 a1_4 a1_5) else (mezzanineref12_Pending.j0 k (Go.bits .or .u64 a0_42 a0_61) a0_0 a0_1 a0_2 a0_3 a0_4 a0_5 a0_6 a0_7 a0_8 a0_9 a0_10 a0_11 a0_12 a0_13 a0_14 a0_15 a0_16 a0_17 a0_18 a0_19 a0_20 a0_21 a0_22 a0_23 a0_24 a0_25 a0_26 a0_27 a0_28 a0_29 a0_30 a0_31 a0_32 a0_33 a0_34 a0_35 a0_36 a0_37 a0_38 a0_39 a0_40 a0_41 a0_42 a0_43 a0_44 a0_45 a0_46 a0_47 a0_48 a0_49 a0_50 a0_51 a0_52 a0_53 a0_54 a0_55 a0_56 a0_57 a0_58 a0_59 a0_60 a0_61 a0_62 a0_63 a0_64 a0_65 a0_66 a0_67 a0_68 a0_69 a0_70 a0_71 a0_72 a0_73 a0_74 a0_75 a0_76 a1_0 a1_1 a1_2 a1_3 a1_4 a1_5)) = some r := h
  clear h
  have HC3 := Aside0.mk H
  clear H
  go_enter Tryd.func18, Tryd.ntmps18
  go_upto_if 12 with (first | ((with_reducible refine gate_dst (N := 2) rfl ?_); refine box_event ?hg (N := 2) ?hd (cs := #[.int .u64 a0_0, .int .u64 a0_1, .int .u64 a0_2, .int .u64 a0_3, .int .u64 a0_4, .int .u64 a0_5, .int .u64 a0_6, .int .u64 a0_7, .int .u64 a0_8, .int .u64 a0_9, .int .u64 a0_10, .int .u64 a0_11, .int .u64 a0_12, .int .u64 a0_13, .int .u64 a0_14, .int .u64 a0_15, .int .u64 a0_16, .int .u64 a0_17, .int .u64 a0_18, .int .u64 a0_19, .int .u64 a0_20, .int .u64 a0_21, .int .u64 a0_22, .int .u64 a0_23, .int .u64 a0_24, .int .u64 a0_25, .int .u64 a0_26, .int .u64 a0_27, .int .u64 a0_28, .int .u64 a0_29, .int .u64 a0_30, .int .u64 a0_31, .int .u64 a0_32, .int .u8 a0_33, .bool a0_34, .bool a0_35, .bool a0_36, .int .u64 a0_37, .int .u64 a0_38, .int .u64 a0_39, .int .u64 a0_40, .int .u64 a0_41, .int .u64 a0_42, .int .u64 a0_43, .int .u64 a0_44, .int .u64 a0_45, .int .u64 a0_46, .int .u64 a0_47, .int .u64 a0_48, .int .u64 a0_49, .int .u64 a0_50, .int .u64 a0_51, .int .u64 a0_52, .int .u64 a0_53, .int .u64 a0_54, .int .u64 a0_55, .int .u64 a0_56, .int .u64 a0_57, .int .u64 a0_58, .int .u64 a0_59, .int .u64 a0_60, .int .u64 a0_61, .int .u64 a0_62, .int .u64 a0_63, .int .u64 a0_64, .int .u64 a0_65, .int .u64 a0_66, .int .u64 a0_67, .int .u64 a0_68, .int .u64 a0_69, .int .u64 a0_70, .int .u64 a0_71, .int .u64 a0_72, .int .u64 a0_73, .int .u64 a0_74, .int .u64 a0_75, .int .u64 a0_76]) (t := 25) ?hr ?_; (case hd => rfl); (case hg => rfl); (case hr => first | (go_simp; done) | (go_simp; rfl)); intro gb127 hg w4 hbox hb; have n0_ := Aside0.mk (below_step (by repeat (first | (with_reducible first | exact HB.out | apply below_alloc | apply pw_below_drewN | apply below_drew1) | exact HB.out)) hb); have n1_ := Aside0.mk (hbox); have n2_ := Aside0.mk ((by rw [hg]; exact (below_size (by repeat (first | (with_reducible first | exact HB.out | apply below_alloc | apply pw_below_drewN | apply below_drew1) | exact HB.out))) : w.heap.size ≤ gb127)); have n3_ := Aside0.mk ((by rw [hg]; exact (below_size (by repeat (first | (with_reducible first | exact HB.out | apply below_alloc | apply pw_below_drewN | apply below_drew1) | exact HB.out))) : w.heap.size ≤ gb127)); clear HB; have HB := n0_; have BK127 := n1_; have GW127 := n2_; have GE127 := n3_; clear n0_ n1_ n2_ n3_; clear hb hbox hg) | ((with_reducible refine gate_dst (N := 3) rfl ?_); refine box_event ?hg (N := 3) ?hd (cs := #[.bool a1_0, .bool a1_1, .bool a1_2, .bool a1_3, .int .u64 a1_4, .int .u64 a1_5]) (t := 27) ?hr ?_; (case hd => rfl); (case hg => rfl); (case hr => first | (go_simp; done) | (go_simp; rfl)); intro gb128 hg w5 hbox hb; have n0_ := Aside0.mk (blk_below (g := gb127) (o := .cells #[.int .u64 a0_0, .int .u64 a0_1, .int .u64 a0_2, .int .u64 a0_3, .int .u64 a0_4, .int .u64 a0_5, .int .u64 a0_6, .int .u64 a0_7, .int .u64 a0_8, .int .u64 a0_9, .int .u64 a0_10, .int .u64 a0_11, .int .u64 a0_12, .int .u64 a0_13, .int .u64 a0_14, .int .u64 a0_15, .int .u64 a0_16, .int .u64 a0_17, .int .u64 a0_18, .int .u64 a0_19, .int .u64 a0_20, .int .u64 a0_21, .int .u64 a0_22, .int .u64 a0_23, .int .u64 a0_24, .int .u64 a0_25, .int .u64 a0_26, .int .u64 a0_27, .int .u64 a0_28, .int .u64 a0_29, .int .u64 a0_30, .int .u64 a0_31, .int .u64 a0_32, .int .u8 a0_33, .bool a0_34, .bool a0_35, .bool a0_36, .int .u64 a0_37, .int .u64 a0_38, .int .u64 a0_39, .int .u64 a0_40, .int .u64 a0_41, .int .u64 a0_42, .int .u64 a0_43, .int .u64 a0_44, .int .u64 a0_45, .int .u64 a0_46, .int .u64 a0_47, .int .u64 a0_48, .int .u64 a0_49, .int .u64 a0_50, .int .u64 a0_51, .int .u64 a0_52, .int .u64 a0_53, .int .u64 a0_54, .int .u64 a0_55, .int .u64 a0_56, .int .u64 a0_57, .int .u64 a0_58, .int .u64 a0_59, .int .u64 a0_60, .int .u64 a0_61, .int .u64 a0_62, .int .u64 a0_63, .int .u64 a0_64, .int .u64 a0_65, .int .u64 a0_66, .int .u64 a0_67, .int .u64 a0_68, .int .u64 a0_69, .int .u64 a0_70, .int .u64 a0_71, .int .u64 a0_72, .int .u64 a0_73, .int .u64 a0_74, .int .u64 a0_75, .int .u64 a0_76] 25 (0, 0)) (by (with_reducible repeat (first | refine blk_drewN ?_ _ | refine blk_drew ?_ | refine blk_alloc ?_ _)); exact BK127.out) hb); have n1_ := Aside0.mk (below_step (by repeat (first | (with_reducible first | exact HB.out | apply below_alloc | apply pw_below_drewN | apply below_drew1 | refine below_set ?_ GE127.out) | exact HB.out)) hb); have n2_ := Aside0.mk (hbox); have n3_ := Aside0.mk ((by rw [hg]; exact (below_size (by repeat (first | (with_reducible first | exact HB.out | apply below_alloc | apply pw_below_drewN | apply below_drew1 | refine below_set ?_ GE127.out) | exact HB.out))) : w.heap.size ≤ gb128)); have n4_ := Aside0.mk ((by rw [hg]; exact (below_size (by repeat (first | (with_reducible first | exact HB.out | apply below_alloc | apply pw_below_drewN | apply below_drew1 | refine below_set ?_ GE127.out) | exact HB.out))) : w.heap.size ≤ gb128)); have n5_ := Aside0.mk ((by rw [hg]; exact Nat.ne_of_lt (blk_lt (g := gb127) (o := .cells #[.int .u64 a0_0, .int .u64 a0_1, .int .u64 a0_2, .int .u64 a0_3, .int .u64 a0_4, .int .u64 a0_5, .int .u64 a0_6, .int .u64 a0_7, .int .u64 a0_8, .int .u64 a0_9, .int .u64 a0_10, .int .u64 a0_11, .int .u64 a0_12, .int .u64 a0_13, .int .u64 a0_14, .int .u64 a0_15, .int .u64 a0_16, .int .u64 a0_17, .int .u64 a0_18, .int .u64 a0_19, .int .u64 a0_20, .int .u64 a0_21, .int .u64 a0_22, .int .u64 a0_23, .int .u64 a0_24, .int .u64 a0_25, .int .u64 a0_26, .int .u64 a0_27, .int .u64 a0_28, .int .u64 a0_29, .int .u64 a0_30, .int .u64 a0_31, .int .u64 a0_32, .int .u8 a0_33, .bool a0_34, .bool a0_35, .bool a0_36, .int .u64 a0_37, .int .u64 a0_38, .int .u64 a0_39, .int .u64 a0_40, .int .u64 a0_41, .int .u64 a0_42, .int .u64 a0_43, .int .u64 a0_44, .int .u64 a0_45, .int .u64 a0_46, .int .u64 a0_47, .int .u64 a0_48, .int .u64 a0_49, .int .u64 a0_50, .int .u64 a0_51, .int .u64 a0_52, .int .u64 a0_53, .int .u64 a0_54, .int .u64 a0_55, .int .u64 a0_56, .int .u64 a0_57, .int .u64 a0_58, .int .u64 a0_59, .int .u64 a0_60, .int .u64 a0_61, .int .u64 a0_62, .int .u64 a0_63, .int .u64 a0_64, .int .u64 a0_65, .int .u64 a0_66, .int .u64 a0_67, .int .u64 a0_68, .int .u64 a0_69, .int .u64 a0_70, .int .u64 a0_71, .int .u64 a0_72, .int .u64 a0_73, .int .u64 a0_74, .int .u64 a0_75, .int .u64 a0_76] 25 (0, 0)) (by (with_reducible repeat (first | refine blk_drewN ?_ _ | refine blk_drew ?_ | refine blk_alloc ?_ _)); exact BK127.out)) : gb127 ≠ gb128)); have n6_ := Aside0.mk ((by rw [hg]; exact Nat.ne_of_gt (blk_lt (g := gb127) (o := .cells #[.int .u64 a0_0, .int .u64 a0_1, .int .u64 a0_2, .int .u64 a0_3, .int .u64 a0_4, .int .u64 a0_5, .int .u64 a0_6, .int .u64 a0_7, .int .u64 a0_8, .int .u64 a0_9, .int .u64 a0_10, .int .u64 a0_11, .int .u64 a0_12, .int .u64 a0_13, .int .u64 a0_14, .int .u64 a0_15, .int .u64 a0_16, .int .u64 a0_17, .int .u64 a0_18, .int .u64 a0_19, .int .u64 a0_20, .int .u64 a0_21, .int .u64 a0_22, .int .u64 a0_23, .int .u64 a0_24, .int .u64 a0_25, .int .u64 a0_26, .int .u64 a0_27, .int .u64 a0_28, .int .u64 a0_29, .int .u64 a0_30, .int .u64 a0_31, .int .u64 a0_32, .int .u8 a0_33, .bool a0_34, .bool a0_35, .bool a0_36, .int .u64 a0_37, .int .u64 a0_38, .int .u64 a0_39, .int .u64 a0_40, .int .u64 a0_41, .int .u64 a0_42, .int .u64 a0_43, .int .u64 a0_44, .int .u64 a0_45, .int .u64 a0_46, .int .u64 a0_47, .int .u64 a0_48, .int .u64 a0_49, .int .u64 a0_50, .int .u64 a0_51, .int .u64 a0_52, .int .u64 a0_53, .int .u64 a0_54, .int .u64 a0_55, .int .u64 a0_56, .int .u64 a0_57, .int .u64 a0_58, .int .u64 a0_59, .int .u64 a0_60, .int .u64 a0_61, .int .u64 a0_62, .int .u64 a0_63, .int .u64 a0_64, .int .u64 a0_65, .int .u64 a0_66, .int .u64 a0_67, .int .u64 a0_68, .int .u64 a0_69, .int .u64 a0_70, .int .u64 a0_71, .int .u64 a0_72, .int .u64 a0_73, .int .u64 a0_74, .int .u64 a0_75, .int .u64 a0_76] 25 (0, 0)) (by (with_reducible repeat (first | refine blk_drewN ?_ _ | refine blk_drew ?_ | refine blk_alloc ?_ _)); exact BK127.out)) : gb128 ≠ gb127)); clear BK127; clear HB; have BK127 := n0_; have HB := n1_; have BK128 := n2_; have GW128 := n3_; have GE128 := n4_; have NB127_128 := n5_; have NB128_127 := n6_; clear n0_ n1_ n2_ n3_ n4_ n5_ n6_; clear hb hbox hg; have hnb6 := NB127_128.out; have hnc6 := NB128_127.out; have hcz7_42 : w5.cell? ⟨gb127, 42, none⟩ = some (.int .u64 a0_42) := (blk_cell BK127.out 42).trans rfl; have hcz7_58 : w5.cell? ⟨gb127, 58, none⟩ = some (.int .u64 a0_58) := (blk_cell BK127.out 58).trans rfl; have hcz7_61 : w5.cell? ⟨gb127, 61, none⟩ = some (.int .u64 a0_61) := (blk_cell BK127.out 61).trans rfl; have hcz7_63 : w5.cell? ⟨gb127, 63, none⟩ = some (.int .u64 a0_63) := (blk_cell BK127.out 63).trans rfl; have hfz7_42 := blk_frozen BK127.out 42; have hfz7_58 := blk_frozen BK127.out 58; have hfz7_61 := blk_frozen BK127.out 61; have hfz7_63 := blk_frozen BK127.out 63; have hcz8_0 : w5.cell? ⟨gb128, 0, none⟩ = some (.bool a1_0) := (blk_cell BK128.out 0).trans rfl; have hcz8_1 : w5.cell? ⟨gb128, 1, none⟩ = some (.bool a1_1) := (blk_cell BK128.out 1).trans rfl; have hcz8_2 : w5.cell? ⟨gb128, 2, none⟩ = some (.bool a1_2) := (blk_cell BK128.out 2).trans rfl; have hcz8_3 : w5.cell? ⟨gb128, 3, none⟩ = some (.bool a1_3) := (blk_cell BK128.out 3).trans rfl; have hcz8_4 : w5.cell? ⟨gb128, 4, none⟩ = some (.int .u64 a1_4) := (blk_cell BK128.out 4).trans rfl; have hcz8_5 : w5.cell? ⟨gb128, 5, none⟩ = some (.int .u64 a1_5) := (blk_cell BK128.out 5).trans rfl; have hfz8_0 := blk_frozen BK128.out 0; have hfz8_1 := blk_frozen BK128.out 1; have hfz8_2 := blk_frozen BK128.out 2; have hfz8_3 := blk_frozen BK128.out 3; have hfz8_4 := blk_frozen BK128.out 4; have hfz8_5 := blk_frozen BK128.out 5))
  (try simp only [Act.put, List.setIfInBounds_toArray, List.set_cons_zero, List.set_cons_succ])
  go_cut [5] (fun v5 wc => ∃ (kq : Nat) (x5_2 : Int), v5 = .int .u64 x5_2 ∧ Aside0 (mezzanineref12_Pending.j0 kq x5_2 a0_0 a0_1 a0_2 a0_3 a0_4 a0_5 a0_6 a0_7 a0_8 a0_9 a0_10 a0_11 a0_12 a0_13 a0_14 a0_15 a0_16 a0_17 a0_18 a0_19 a0_20 a0_21 a0_22 a0_23 a0_24 a0_25 a0_26 a0_27 a0_28 a0_29 a0_30 a0_31 a0_32 a0_33 a0_34 a0_35 a0_36 a0_37 a0_38 a0_39 a0_40 a0_41 a0_42 a0_43 a0_44 a0_45 a0_46 a0_47 a0_48 a0_49 a0_50 a0_51 a0_52 a0_53 a0_54 a0_55 a0_56 a0_57 a0_58 a0_59 a0_60 a0_61 a0_62 a0_63 a0_64 a0_65 a0_66 a0_67 a0_68 a0_69 a0_70 a0_71 a0_72 a0_73 a0_74 a0_75 a0_76 a1_0 a1_1 a1_2 a1_3 a1_4 a1_5 = some r) ∧ Aside0 (kq ≤ k) ∧ Aside0 (wc.heap[gb127]? = some (.cells #[.int .u64 a0_0, .int .u64 a0_1, .int .u64 a0_2, .int .u64 a0_3, .int .u64 a0_4, .int .u64 a0_5, .int .u64 a0_6, .int .u64 a0_7, .int .u64 a0_8, .int .u64 a0_9, .int .u64 a0_10, .int .u64 a0_11, .int .u64 a0_12, .int .u64 a0_13, .int .u64 a0_14, .int .u64 a0_15, .int .u64 a0_16, .int .u64 a0_17, .int .u64 a0_18, .int .u64 a0_19, .int .u64 a0_20, .int .u64 a0_21, .int .u64 a0_22, .int .u64 a0_23, .int .u64 a0_24, .int .u64 a0_25, .int .u64 a0_26, .int .u64 a0_27, .int .u64 a0_28, .int .u64 a0_29, .int .u64 a0_30, .int .u64 a0_31, .int .u64 a0_32, .int .u8 a0_33, .bool a0_34, .bool a0_35, .bool a0_36, .int .u64 a0_37, .int .u64 a0_38, .int .u64 a0_39, .int .u64 a0_40, .int .u64 a0_41, .int .u64 a0_42, .int .u64 a0_43, .int .u64 a0_44, .int .u64 a0_45, .int .u64 a0_46, .int .u64 a0_47, .int .u64 a0_48, .int .u64 a0_49, .int .u64 a0_50, .int .u64 a0_51, .int .u64 a0_52, .int .u64 a0_53, .int .u64 a0_54, .int .u64 a0_55, .int .u64 a0_56, .int .u64 a0_57, .int .u64 a0_58, .int .u64 a0_59, .int .u64 a0_60, .int .u64 a0_61, .int .u64 a0_62, .int .u64 a0_63, .int .u64 a0_64, .int .u64 a0_65, .int .u64 a0_66, .int .u64 a0_67, .int .u64 a0_68, .int .u64 a0_69, .int .u64 a0_70, .int .u64 a0_71, .int .u64 a0_72, .int .u64 a0_73, .int .u64 a0_74, .int .u64 a0_75, .int .u64 a0_76] 25 (0, 0))) ∧ Aside0 (wc.heap[gb128]? = some (.cells #[.bool a1_0, .bool a1_1, .bool a1_2, .bool a1_3, .int .u64 a1_4, .int .u64 a1_5] 27 (0, 0))) ∧ Aside0 (Below w.heap.size w wc))
  case first =>
    have H := HC3.out
    clear HC3
    by_cases c9 : a1_0 = true
    · subst c9
      have H1 : (mezzanineref12_Pending.j0 k (Go.bits .or .u64 (Go.bits .or .u64 a0_42 a0_61) 8) a0_0 a0_1 a0_2 a0_3 a0_4 a0_5 a0_6 a0_7 a0_8 a0_9 a0_10 a0_11 a0_12 a0_13 a0_14 a0_15 a0_16 a0_17 a0_18 a0_19 a0_20 a0_21 a0_22 a0_23 a0_24 a0_25 a0_26 a0_27 a0_28 a0_29 a0_30 a0_31 a0_32 a0_33 a0_34 a0_35 a0_36 a0_37 a0_38 a0_39 a0_40 a0_41 a0_42 a0_43 a0_44 a0_45 a0_46 a0_47 a0_48 a0_49 a0_50 a0_51 a0_52 a0_53 a0_54 a0_55 a0_56 a0_57 a0_58 a0_59 a0_60 a0_61 a0_62 a0_63 a0_64 a0_65 a0_66 a0_67 a0_68 a0_69 a0_70 a0_71 a0_72 a0_73 a0_74 a0_75 a0_76 true a1_1 a1_2 a1_3 a1_4 a1_5) = some r := by rw [if_pos rfl] at H; exact H
      clear H
      have H := H1
      clear H1
      have H' := Aside0.mk H
      clear H
      go_wp2
      go_meet
      case rel => exact ⟨_, (Go.bits .or .u64 (Go.bits .or .u64 a0_42 a0_61) 8), (by first | rfl | (simp; done) | (simp [*]; done)), H', ⟨by first | omega | exact Nat.le_refl _⟩, ⟨by (with_reducible repeat (first | refine blk_drewN ?_ _ | refine blk_drew ?_ | refine blk_alloc ?_ _)); exact BK127.out⟩, ⟨by (with_reducible repeat (first | refine blk_drewN ?_ _ | refine blk_drew ?_ | refine blk_alloc ?_ _)); exact BK128.out⟩, ⟨by repeat (first | (with_reducible first | exact HB.out | apply below_alloc | apply pw_below_drewN | apply below_drew1 | refine below_set ?_ GE127.out | refine below_set ?_ GE128.out) | exact HB.out)⟩⟩
    · replace c9 := Bool.eq_false_iff.mpr c9
      subst c9
      have H1 : (mezzanineref12_Pending.j0 k (Go.bits .or .u64 a0_42 a0_61) a0_0 a0_1 a0_2 a0_3 a0_4 a0_5 a0_6 a0_7 a0_8 a0_9 a0_10 a0_11 a0_12 a0_13 a0_14 a0_15 a0_16 a0_17 a0_18 a0_19 a0_20 a0_21 a0_22 a0_23 a0_24 a0_25 a0_26 a0_27 a0_28 a0_29 a0_30 a0_31 a0_32 a0_33 a0_34 a0_35 a0_36 a0_37 a0_38 a0_39 a0_40 a0_41 a0_42 a0_43 a0_44 a0_45 a0_46 a0_47 a0_48 a0_49 a0_50 a0_51 a0_52 a0_53 a0_54 a0_55 a0_56 a0_57 a0_58 a0_59 a0_60 a0_61 a0_62 a0_63 a0_64 a0_65 a0_66 a0_67 a0_68 a0_69 a0_70 a0_71 a0_72 a0_73 a0_74 a0_75 a0_76 false a1_1 a1_2 a1_3 a1_4 a1_5) = some r := by rw [if_neg (show ¬ (false = true) by decide)] at H; exact H
      clear H
      have H := H1
      clear H1
      have H' := Aside0.mk H
      clear H
      go_wp2
      go_meet
      case rel => exact ⟨_, (Go.bits .or .u64 a0_42 a0_61), (by first | rfl | (simp; done) | (simp [*]; done)), H', ⟨by first | omega | exact Nat.le_refl _⟩, ⟨by (with_reducible repeat (first | refine blk_drewN ?_ _ | refine blk_drew ?_ | refine blk_alloc ?_ _)); exact BK127.out⟩, ⟨by (with_reducible repeat (first | refine blk_drewN ?_ _ | refine blk_drew ?_ | refine blk_alloc ?_ _)); exact BK128.out⟩, ⟨by repeat (first | (with_reducible first | exact HB.out | apply below_alloc | apply pw_below_drewN | apply below_drew1 | refine below_set ?_ GE127.out | refine below_set ?_ GE128.out) | exact HB.out)⟩⟩
  case rest =>
    clear HC3
    try clear c1
    try clear p2
    try clear c6
    try clear c9
    try clear hcz7_42
    try clear hcz7_58
    try clear hcz7_61
    try clear hcz7_63
    try clear hcz8_0
    try clear hcz8_1
    try clear hcz8_2
    try clear hcz8_3
    try clear hcz8_4
    try clear hcz8_5
    try clear hfz7_42
    try clear hfz7_58
    try clear hfz7_61
    try clear hfz7_63
    try clear hfz8_0
    try clear hfz8_1
    try clear hfz8_2
    try clear hfz8_3
    try clear hfz8_4
    try clear hfz8_5
    obtain ⟨kq, x5_2, rfl, HA, HJ2, BK127, BK128, HB⟩ := hcut
    cases kq with
    | zero => exact absurd HA.out (by simp [mezzanineref12_Pending.j0])
    | succ kj2 =>
      have H := HA.out
      clear HA
      simp only [mezzanineref12_Pending.j0] at H
      have HC10 := Aside0.mk H
      clear H
      have hnb11 := NB128_127.out
      have hnc11 := NB127_128.out
      have hcz12_0 : wc.cell? ⟨gb128, 0, none⟩ = some (.bool a1_0) := (blk_cell BK128.out 0).trans rfl
      have hcz12_1 : wc.cell? ⟨gb128, 1, none⟩ = some (.bool a1_1) := (blk_cell BK128.out 1).trans rfl
      have hcz12_2 : wc.cell? ⟨gb128, 2, none⟩ = some (.bool a1_2) := (blk_cell BK128.out 2).trans rfl
      have hcz12_3 : wc.cell? ⟨gb128, 3, none⟩ = some (.bool a1_3) := (blk_cell BK128.out 3).trans rfl
      have hcz12_4 : wc.cell? ⟨gb128, 4, none⟩ = some (.int .u64 a1_4) := (blk_cell BK128.out 4).trans rfl
      have hcz12_5 : wc.cell? ⟨gb128, 5, none⟩ = some (.int .u64 a1_5) := (blk_cell BK128.out 5).trans rfl
      have hfz12_0 := blk_frozen BK128.out 0
      have hfz12_1 := blk_frozen BK128.out 1
      have hfz12_2 := blk_frozen BK128.out 2
      have hfz12_3 := blk_frozen BK128.out 3
      have hfz12_4 := blk_frozen BK128.out 4
      have hfz12_5 := blk_frozen BK128.out 5
      go_upto_if 16 with (fail)
      go_cut [5] (fun v5 wc => ∃ (kq : Nat) (x5_9 : Int), v5 = .int .u64 x5_9 ∧ Aside0 (mezzanineref12_Pending.j1 kq x5_9 a0_0 a0_1 a0_2 a0_3 a0_4 a0_5 a0_6 a0_7 a0_8 a0_9 a0_10 a0_11 a0_12 a0_13 a0_14 a0_15 a0_16 a0_17 a0_18 a0_19 a0_20 a0_21 a0_22 a0_23 a0_24 a0_25 a0_26 a0_27 a0_28 a0_29 a0_30 a0_31 a0_32 a0_33 a0_34 a0_35 a0_36 a0_37 a0_38 a0_39 a0_40 a0_41 a0_42 a0_43 a0_44 a0_45 a0_46 a0_47 a0_48 a0_49 a0_50 a0_51 a0_52 a0_53 a0_54 a0_55 a0_56 a0_57 a0_58 a0_59 a0_60 a0_61 a0_62 a0_63 a0_64 a0_65 a0_66 a0_67 a0_68 a0_69 a0_70 a0_71 a0_72 a0_73 a0_74 a0_75 a0_76 a1_0 a1_1 a1_2 a1_3 a1_4 a1_5 = some r) ∧ Aside0 (kq ≤ kj2) ∧ Aside0 (wc.heap[gb127]? = some (.cells #[.int .u64 a0_0, .int .u64 a0_1, .int .u64 a0_2, .int .u64 a0_3, .int .u64 a0_4, .int .u64 a0_5, .int .u64 a0_6, .int .u64 a0_7, .int .u64 a0_8, .int .u64 a0_9, .int .u64 a0_10, .int .u64 a0_11, .int .u64 a0_12, .int .u64 a0_13, .int .u64 a0_14, .int .u64 a0_15, .int .u64 a0_16, .int .u64 a0_17, .int .u64 a0_18, .int .u64 a0_19, .int .u64 a0_20, .int .u64 a0_21, .int .u64 a0_22, .int .u64 a0_23, .int .u64 a0_24, .int .u64 a0_25, .int .u64 a0_26, .int .u64 a0_27, .int .u64 a0_28, .int .u64 a0_29, .int .u64 a0_30, .int .u64 a0_31, .int .u64 a0_32, .int .u8 a0_33, .bool a0_34, .bool a0_35, .bool a0_36, .int .u64 a0_37, .int .u64 a0_38, .int .u64 a0_39, .int .u64 a0_40, .int .u64 a0_41, .int .u64 a0_42, .int .u64 a0_43, .int .u64 a0_44, .int .u64 a0_45, .int .u64 a0_46, .int .u64 a0_47, .int .u64 a0_48, .int .u64 a0_49, .int .u64 a0_50, .int .u64 a0_51, .int .u64 a0_52, .int .u64 a0_53, .int .u64 a0_54, .int .u64 a0_55, .int .u64 a0_56, .int .u64 a0_57, .int .u64 a0_58, .int .u64 a0_59, .int .u64 a0_60, .int .u64 a0_61, .int .u64 a0_62, .int .u64 a0_63, .int .u64 a0_64, .int .u64 a0_65, .int .u64 a0_66, .int .u64 a0_67, .int .u64 a0_68, .int .u64 a0_69, .int .u64 a0_70, .int .u64 a0_71, .int .u64 a0_72, .int .u64 a0_73, .int .u64 a0_74, .int .u64 a0_75, .int .u64 a0_76] 25 (0, 0))) ∧ Aside0 (wc.heap[gb128]? = some (.cells #[.bool a1_0, .bool a1_1, .bool a1_2, .bool a1_3, .int .u64 a1_4, .int .u64 a1_5] 27 (0, 0))) ∧ Aside0 (Below w.heap.size w wc))
      case first =>
        have H := HC10.out
        clear HC10
        by_cases c13 : a1_1 = true
        · subst c13
          have H1 : (mezzanineref12_Pending.j1 kj2 (Go.bits .or .u64 x5_2 128) a0_0 a0_1 a0_2 a0_3 a0_4 a0_5 a0_6 a0_7 a0_8 a0_9 a0_10 a0_11 a0_12 a0_13 a0_14 a0_15 a0_16 a0_17 a0_18 a0_19 a0_20 a0_21 a0_22 a0_23 a0_24 a0_25 a0_26 a0_27 a0_28 a0_29 a0_30 a0_31 a0_32 a0_33 a0_34 a0_35 a0_36 a0_37 a0_38 a0_39 a0_40 a0_41 a0_42 a0_43 a0_44 a0_45 a0_46 a0_47 a0_48 a0_49 a0_50 a0_51 a0_52 a0_53 a0_54 a0_55 a0_56 a0_57 a0_58 a0_59 a0_60 a0_61 a0_62 a0_63 a0_64 a0_65 a0_66 a0_67 a0_68 a0_69 a0_70 a0_71 a0_72 a0_73 a0_74 a0_75 a0_76 a1_0 true a1_2 a1_3 a1_4 a1_5) = some r := by rw [if_pos rfl] at H; exact H
          clear H
          have H := H1
          clear H1
          have H' := Aside0.mk H
          clear H
          go_wp2
          go_meet
          case rel => exact ⟨_, (Go.bits .or .u64 x5_2 128), (by first | rfl | (simp; done) | (simp [*]; done)), H', ⟨by have := HJ2.out; first | omega | exact Nat.le_refl _⟩, ⟨by (with_reducible repeat (first | refine blk_drewN ?_ _ | refine blk_drew ?_ | refine blk_alloc ?_ _)); exact BK127.out⟩, ⟨by (with_reducible repeat (first | refine blk_drewN ?_ _ | refine blk_drew ?_ | refine blk_alloc ?_ _)); exact BK128.out⟩, ⟨by repeat (first | (with_reducible first | exact HB.out | apply below_alloc | apply pw_below_drewN | apply below_drew1 | refine below_set ?_ GE127.out | refine below_set ?_ GE128.out) | exact HB.out)⟩⟩
        · replace c13 := Bool.eq_false_iff.mpr c13
          subst c13
          have H1 : (mezzanineref12_Pending.j1 kj2 x5_2 a0_0 a0_1 a0_2 a0_3 a0_4 a0_5 a0_6 a0_7 a0_8 a0_9 a0_10 a0_11 a0_12 a0_13 a0_14 a0_15 a0_16 a0_17 a0_18 a0_19 a0_20 a0_21 a0_22 a0_23 a0_24 a0_25 a0_26 a0_27 a0_28 a0_29 a0_30 a0_31 a0_32 a0_33 a0_34 a0_35 a0_36 a0_37 a0_38 a0_39 a0_40 a0_41 a0_42 a0_43 a0_44 a0_45 a0_46 a0_47 a0_48 a0_49 a0_50 a0_51 a0_52 a0_53 a0_54 a0_55 a0_56 a0_57 a0_58 a0_59 a0_60 a0_61 a0_62 a0_63 a0_64 a0_65 a0_66 a0_67 a0_68 a0_69 a0_70 a0_71 a0_72 a0_73 a0_74 a0_75 a0_76 a1_0 false a1_2 a1_3 a1_4 a1_5) = some r := by rw [if_neg (show ¬ (false = true) by decide)] at H; exact H
          clear H
          have H := H1
          clear H1
          have H' := Aside0.mk H
          clear H
          go_wp2
          go_meet
          case rel => exact ⟨_, (x5_2), (by first | rfl | (simp; done) | (simp [*]; done)), H', ⟨by have := HJ2.out; first | omega | exact Nat.le_refl _⟩, ⟨by (with_reducible repeat (first | refine blk_drewN ?_ _ | refine blk_drew ?_ | refine blk_alloc ?_ _)); exact BK127.out⟩, ⟨by (with_reducible repeat (first | refine blk_drewN ?_ _ | refine blk_drew ?_ | refine blk_alloc ?_ _)); exact BK128.out⟩, ⟨by repeat (first | (with_reducible first | exact HB.out | apply below_alloc | apply pw_below_drewN | apply below_drew1 | refine below_set ?_ GE127.out | refine below_set ?_ GE128.out) | exact HB.out)⟩⟩
      case rest =>
        clear HC10
        try clear c1
        try clear p2
        try clear c6
        try clear c9
        try clear c11
        try clear c13
        try clear hcz12_0
        try clear hcz12_1
        try clear hcz12_2
        try clear hcz12_3
        try clear hcz12_4
        try clear hcz12_5
        try clear hcz7_42
        try clear hcz7_58
        try clear hcz7_61
        try clear hcz7_63
        try clear hcz8_0
        try clear hcz8_1
        try clear hcz8_2
        try clear hcz8_3
        try clear hcz8_4
        try clear hcz8_5
        try clear hfz12_0
        try clear hfz12_1
        try clear hfz12_2
        try clear hfz12_3
        try clear hfz12_4
        try clear hfz12_5
        try clear hfz7_42
        try clear hfz7_58
        try clear hfz7_61
        try clear hfz7_63
        try clear hfz8_0
        try clear hfz8_1
        try clear hfz8_2
        try clear hfz8_3
        try clear hfz8_4
        try clear hfz8_5
        try clear p2
        obtain ⟨kq, x5_9, rfl, HA, HJ9, BK127, BK128, HB⟩ := hcut
        cases kq with
        | zero => exact absurd HA.out (by simp [mezzanineref12_Pending.j1])
        | succ kj9 =>
          have H := HA.out
          clear HA
          simp only [mezzanineref12_Pending.j1] at H
          have HC14 := Aside0.mk H
          clear H
          have hnb15 := NB128_127.out
          have hnc15 := NB127_128.out
          have hcz16_0 : wc.cell? ⟨gb128, 0, none⟩ = some (.bool a1_0) := (blk_cell BK128.out 0).trans rfl
          have hcz16_1 : wc.cell? ⟨gb128, 1, none⟩ = some (.bool a1_1) := (blk_cell BK128.out 1).trans rfl
          have hcz16_2 : wc.cell? ⟨gb128, 2, none⟩ = some (.bool a1_2) := (blk_cell BK128.out 2).trans rfl
          have hcz16_3 : wc.cell? ⟨gb128, 3, none⟩ = some (.bool a1_3) := (blk_cell BK128.out 3).trans rfl
          have hcz16_4 : wc.cell? ⟨gb128, 4, none⟩ = some (.int .u64 a1_4) := (blk_cell BK128.out 4).trans rfl
          have hcz16_5 : wc.cell? ⟨gb128, 5, none⟩ = some (.int .u64 a1_5) := (blk_cell BK128.out 5).trans rfl
          have hfz16_0 := blk_frozen BK128.out 0
          have hfz16_1 := blk_frozen BK128.out 1
          have hfz16_2 := blk_frozen BK128.out 2
          have hfz16_3 := blk_frozen BK128.out 3
          have hfz16_4 := blk_frozen BK128.out 4
          have hfz16_5 := blk_frozen BK128.out 5
          go_upto_if 20 with (fail)
          go_cut [5] (fun v5 wc => ∃ (kq : Nat) (x5_13 : Int), v5 = .int .u64 x5_13 ∧ Aside0 (mezzanineref12_Pending.j2 kq x5_13 a0_0 a0_1 a0_2 a0_3 a0_4 a0_5 a0_6 a0_7 a0_8 a0_9 a0_10 a0_11 a0_12 a0_13 a0_14 a0_15 a0_16 a0_17 a0_18 a0_19 a0_20 a0_21 a0_22 a0_23 a0_24 a0_25 a0_26 a0_27 a0_28 a0_29 a0_30 a0_31 a0_32 a0_33 a0_34 a0_35 a0_36 a0_37 a0_38 a0_39 a0_40 a0_41 a0_42 a0_43 a0_44 a0_45 a0_46 a0_47 a0_48 a0_49 a0_50 a0_51 a0_52 a0_53 a0_54 a0_55 a0_56 a0_57 a0_58 a0_59 a0_60 a0_61 a0_62 a0_63 a0_64 a0_65 a0_66 a0_67 a0_68 a0_69 a0_70 a0_71 a0_72 a0_73 a0_74 a0_75 a0_76 a1_0 a1_1 a1_2 a1_3 a1_4 a1_5 = some r) ∧ Aside0 (kq ≤ kj9) ∧ Aside0 (wc.heap[gb127]? = some (.cells #[.int .u64 a0_0, .int .u64 a0_1, .int .u64 a0_2, .int .u64 a0_3, .int .u64 a0_4, .int .u64 a0_5, .int .u64 a0_6, .int .u64 a0_7, .int .u64 a0_8, .int .u64 a0_9, .int .u64 a0_10, .int .u64 a0_11, .int .u64 a0_12, .int .u64 a0_13, .int .u64 a0_14, .int .u64 a0_15, .int .u64 a0_16, .int .u64 a0_17, .int .u64 a0_18, .int .u64 a0_19, .int .u64 a0_20, .int .u64 a0_21, .int .u64 a0_22, .int .u64 a0_23, .int .u64 a0_24, .int .u64 a0_25, .int .u64 a0_26, .int .u64 a0_27, .int .u64 a0_28, .int .u64 a0_29, .int .u64 a0_30, .int .u64 a0_31, .int .u64 a0_32, .int .u8 a0_33, .bool a0_34, .bool a0_35, .bool a0_36, .int .u64 a0_37, .int .u64 a0_38, .int .u64 a0_39, .int .u64 a0_40, .int .u64 a0_41, .int .u64 a0_42, .int .u64 a0_43, .int .u64 a0_44, .int .u64 a0_45, .int .u64 a0_46, .int .u64 a0_47, .int .u64 a0_48, .int .u64 a0_49, .int .u64 a0_50, .int .u64 a0_51, .int .u64 a0_52, .int .u64 a0_53, .int .u64 a0_54, .int .u64 a0_55, .int .u64 a0_56, .int .u64 a0_57, .int .u64 a0_58, .int .u64 a0_59, .int .u64 a0_60, .int .u64 a0_61, .int .u64 a0_62, .int .u64 a0_63, .int .u64 a0_64, .int .u64 a0_65, .int .u64 a0_66, .int .u64 a0_67, .int .u64 a0_68, .int .u64 a0_69, .int .u64 a0_70, .int .u64 a0_71, .int .u64 a0_72, .int .u64 a0_73, .int .u64 a0_74, .int .u64 a0_75, .int .u64 a0_76] 25 (0, 0))) ∧ Aside0 (wc.heap[gb128]? = some (.cells #[.bool a1_0, .bool a1_1, .bool a1_2, .bool a1_3, .int .u64 a1_4, .int .u64 a1_5] 27 (0, 0))) ∧ Aside0 (Below w.heap.size w wc))
          case first =>
            have H := HC14.out
            clear HC14
            by_cases c17 : a1_2 = true
            · subst c17
              have H1 : (mezzanineref12_Pending.j2 kj9 (Go.bits .or .u64 x5_9 2048) a0_0 a0_1 a0_2 a0_3 a0_4 a0_5 a0_6 a0_7 a0_8 a0_9 a0_10 a0_11 a0_12 a0_13 a0_14 a0_15 a0_16 a0_17 a0_18 a0_19 a0_20 a0_21 a0_22 a0_23 a0_24 a0_25 a0_26 a0_27 a0_28 a0_29 a0_30 a0_31 a0_32 a0_33 a0_34 a0_35 a0_36 a0_37 a0_38 a0_39 a0_40 a0_41 a0_42 a0_43 a0_44 a0_45 a0_46 a0_47 a0_48 a0_49 a0_50 a0_51 a0_52 a0_53 a0_54 a0_55 a0_56 a0_57 a0_58 a0_59 a0_60 a0_61 a0_62 a0_63 a0_64 a0_65 a0_66 a0_67 a0_68 a0_69 a0_70 a0_71 a0_72 a0_73 a0_74 a0_75 a0_76 a1_0 a1_1 true a1_3 a1_4 a1_5) = some r := by rw [if_pos rfl] at H; exact H
              clear H
              have H := H1
              clear H1
              have H' := Aside0.mk H
              clear H
              go_wp2
              go_meet
              case rel => exact ⟨_, (Go.bits .or .u64 x5_9 2048), (by first | rfl | (simp; done) | (simp [*]; done)), H', ⟨by have := HJ2.out; have := HJ9.out; first | omega | exact Nat.le_refl _⟩, ⟨by (with_reducible repeat (first | refine blk_drewN ?_ _ | refine blk_drew ?_ | refine blk_alloc ?_ _)); exact BK127.out⟩, ⟨by (with_reducible repeat (first | refine blk_drewN ?_ _ | refine blk_drew ?_ | refine blk_alloc ?_ _)); exact BK128.out⟩, ⟨by repeat (first | (with_reducible first | exact HB.out | apply below_alloc | apply pw_below_drewN | apply below_drew1 | refine below_set ?_ GE127.out | refine below_set ?_ GE128.out) | exact HB.out)⟩⟩
            · replace c17 := Bool.eq_false_iff.mpr c17
              subst c17
              have H1 : (mezzanineref12_Pending.j2 kj9 x5_9 a0_0 a0_1 a0_2 a0_3 a0_4 a0_5 a0_6 a0_7 a0_8 a0_9 a0_10 a0_11 a0_12 a0_13 a0_14 a0_15 a0_16 a0_17 a0_18 a0_19 a0_20 a0_21 a0_22 a0_23 a0_24 a0_25 a0_26 a0_27 a0_28 a0_29 a0_30 a0_31 a0_32 a0_33 a0_34 a0_35 a0_36 a0_37 a0_38 a0_39 a0_40 a0_41 a0_42 a0_43 a0_44 a0_45 a0_46 a0_47 a0_48 a0_49 a0_50 a0_51 a0_52 a0_53 a0_54 a0_55 a0_56 a0_57 a0_58 a0_59 a0_60 a0_61 a0_62 a0_63 a0_64 a0_65 a0_66 a0_67 a0_68 a0_69 a0_70 a0_71 a0_72 a0_73 a0_74 a0_75 a0_76 a1_0 a1_1 false a1_3 a1_4 a1_5) = some r := by rw [if_neg (show ¬ (false = true) by decide)] at H; exact H
              clear H
              have H := H1
              clear H1
              have H' := Aside0.mk H
              clear H
              go_wp2
              go_meet
              case rel => exact ⟨_, (x5_9), (by first | rfl | (simp; done) | (simp [*]; done)), H', ⟨by have := HJ2.out; have := HJ9.out; first | omega | exact Nat.le_refl _⟩, ⟨by (with_reducible repeat (first | refine blk_drewN ?_ _ | refine blk_drew ?_ | refine blk_alloc ?_ _)); exact BK127.out⟩, ⟨by (with_reducible repeat (first | refine blk_drewN ?_ _ | refine blk_drew ?_ | refine blk_alloc ?_ _)); exact BK128.out⟩, ⟨by repeat (first | (with_reducible first | exact HB.out | apply below_alloc | apply pw_below_drewN | apply below_drew1 | refine below_set ?_ GE127.out | refine below_set ?_ GE128.out) | exact HB.out)⟩⟩
          case rest =>
            clear HC14
            try clear c1
            try clear p2
            try clear c6
            try clear c9
            try clear c11
            try clear c13
            try clear c15
            try clear c17
            try clear hcz12_0
            try clear hcz12_1
            try clear hcz12_2
            try clear hcz12_3
            try clear hcz12_4
            try clear hcz12_5
            try clear hcz16_0
            try clear hcz16_1
            try clear hcz16_2
            try clear hcz16_3
            try clear hcz16_4
            try clear hcz16_5
            try clear hcz7_42
            try clear hcz7_58
            try clear hcz7_61
            try clear hcz7_63
            try clear hcz8_0
            try clear hcz8_1
            try clear hcz8_2
            try clear hcz8_3
            try clear hcz8_4
            try clear hcz8_5
            try clear hfz12_0
            try clear hfz12_1
            try clear hfz12_2
            try clear hfz12_3
            try clear hfz12_4
            try clear hfz12_5
            try clear hfz16_0
            try clear hfz16_1
            try clear hfz16_2
            try clear hfz16_3
            try clear hfz16_4
            try clear hfz16_5
            try clear hfz7_42
            try clear hfz7_58
            try clear hfz7_61
            try clear hfz7_63
            try clear hfz8_0
            try clear hfz8_1
            try clear hfz8_2
            try clear hfz8_3
            try clear hfz8_4
            try clear hfz8_5
            try clear p2
            obtain ⟨kq, x5_13, rfl, HA, HJ13, BK127, BK128, HB⟩ := hcut
            cases kq with
            | zero => exact absurd HA.out (by simp [mezzanineref12_Pending.j2])
            | succ kj13 =>
              have H := HA.out
              clear HA
              simp only [mezzanineref12_Pending.j2] at H
              have HC18 := Aside0.mk H
              clear H
              have hnb19 := NB128_127.out
              have hnc19 := NB127_128.out
              have hcz20_0 : wc.cell? ⟨gb128, 0, none⟩ = some (.bool a1_0) := (blk_cell BK128.out 0).trans rfl
              have hcz20_1 : wc.cell? ⟨gb128, 1, none⟩ = some (.bool a1_1) := (blk_cell BK128.out 1).trans rfl
              have hcz20_2 : wc.cell? ⟨gb128, 2, none⟩ = some (.bool a1_2) := (blk_cell BK128.out 2).trans rfl
              have hcz20_3 : wc.cell? ⟨gb128, 3, none⟩ = some (.bool a1_3) := (blk_cell BK128.out 3).trans rfl
              have hcz20_4 : wc.cell? ⟨gb128, 4, none⟩ = some (.int .u64 a1_4) := (blk_cell BK128.out 4).trans rfl
              have hcz20_5 : wc.cell? ⟨gb128, 5, none⟩ = some (.int .u64 a1_5) := (blk_cell BK128.out 5).trans rfl
              have hfz20_0 := blk_frozen BK128.out 0
              have hfz20_1 := blk_frozen BK128.out 1
              have hfz20_2 := blk_frozen BK128.out 2
              have hfz20_3 := blk_frozen BK128.out 3
              have hfz20_4 := blk_frozen BK128.out 4
              have hfz20_5 := blk_frozen BK128.out 5
              go_upto_if 24 with (fail)
              go_cut [5] (fun v5 wc => ∃ (kq : Nat) (x5_17 : Int), v5 = .int .u64 x5_17 ∧ Aside0 (mezzanineref12_Pending.j3 kq x5_17 a0_0 a0_1 a0_2 a0_3 a0_4 a0_5 a0_6 a0_7 a0_8 a0_9 a0_10 a0_11 a0_12 a0_13 a0_14 a0_15 a0_16 a0_17 a0_18 a0_19 a0_20 a0_21 a0_22 a0_23 a0_24 a0_25 a0_26 a0_27 a0_28 a0_29 a0_30 a0_31 a0_32 a0_33 a0_34 a0_35 a0_36 a0_37 a0_38 a0_39 a0_40 a0_41 a0_42 a0_43 a0_44 a0_45 a0_46 a0_47 a0_48 a0_49 a0_50 a0_51 a0_52 a0_53 a0_54 a0_55 a0_56 a0_57 a0_58 a0_59 a0_60 a0_61 a0_62 a0_63 a0_64 a0_65 a0_66 a0_67 a0_68 a0_69 a0_70 a0_71 a0_72 a0_73 a0_74 a0_75 a0_76 a1_0 a1_1 a1_2 a1_3 a1_4 a1_5 = some r) ∧ Aside0 (kq ≤ kj13) ∧ Aside0 (wc.heap[gb127]? = some (.cells #[.int .u64 a0_0, .int .u64 a0_1, .int .u64 a0_2, .int .u64 a0_3, .int .u64 a0_4, .int .u64 a0_5, .int .u64 a0_6, .int .u64 a0_7, .int .u64 a0_8, .int .u64 a0_9, .int .u64 a0_10, .int .u64 a0_11, .int .u64 a0_12, .int .u64 a0_13, .int .u64 a0_14, .int .u64 a0_15, .int .u64 a0_16, .int .u64 a0_17, .int .u64 a0_18, .int .u64 a0_19, .int .u64 a0_20, .int .u64 a0_21, .int .u64 a0_22, .int .u64 a0_23, .int .u64 a0_24, .int .u64 a0_25, .int .u64 a0_26, .int .u64 a0_27, .int .u64 a0_28, .int .u64 a0_29, .int .u64 a0_30, .int .u64 a0_31, .int .u64 a0_32, .int .u8 a0_33, .bool a0_34, .bool a0_35, .bool a0_36, .int .u64 a0_37, .int .u64 a0_38, .int .u64 a0_39, .int .u64 a0_40, .int .u64 a0_41, .int .u64 a0_42, .int .u64 a0_43, .int .u64 a0_44, .int .u64 a0_45, .int .u64 a0_46, .int .u64 a0_47, .int .u64 a0_48, .int .u64 a0_49, .int .u64 a0_50, .int .u64 a0_51, .int .u64 a0_52, .int .u64 a0_53, .int .u64 a0_54, .int .u64 a0_55, .int .u64 a0_56, .int .u64 a0_57, .int .u64 a0_58, .int .u64 a0_59, .int .u64 a0_60, .int .u64 a0_61, .int .u64 a0_62, .int .u64 a0_63, .int .u64 a0_64, .int .u64 a0_65, .int .u64 a0_66, .int .u64 a0_67, .int .u64 a0_68, .int .u64 a0_69, .int .u64 a0_70, .int .u64 a0_71, .int .u64 a0_72, .int .u64 a0_73, .int .u64 a0_74, .int .u64 a0_75, .int .u64 a0_76] 25 (0, 0))) ∧ Aside0 (wc.heap[gb128]? = some (.cells #[.bool a1_0, .bool a1_1, .bool a1_2, .bool a1_3, .int .u64 a1_4, .int .u64 a1_5] 27 (0, 0))) ∧ Aside0 (Below w.heap.size w wc))
              case first =>
                have H := HC18.out
                clear HC18
                by_cases c21 : a1_3 = true
                · subst c21
                  have H1 : (mezzanineref12_Pending.j3 kj13 (Go.bits .or .u64 x5_13 512) a0_0 a0_1 a0_2 a0_3 a0_4 a0_5 a0_6 a0_7 a0_8 a0_9 a0_10 a0_11 a0_12 a0_13 a0_14 a0_15 a0_16 a0_17 a0_18 a0_19 a0_20 a0_21 a0_22 a0_23 a0_24 a0_25 a0_26 a0_27 a0_28 a0_29 a0_30 a0_31 a0_32 a0_33 a0_34 a0_35 a0_36 a0_37 a0_38 a0_39 a0_40 a0_41 a0_42 a0_43 a0_44 a0_45 a0_46 a0_47 a0_48 a0_49 a0_50 a0_51 a0_52 a0_53 a0_54 a0_55 a0_56 a0_57 a0_58 a0_59 a0_60 a0_61 a0_62 a0_63 a0_64 a0_65 a0_66 a0_67 a0_68 a0_69 a0_70 a0_71 a0_72 a0_73 a0_74 a0_75 a0_76 a1_0 a1_1 a1_2 true a1_4 a1_5) = some r := by rw [if_pos rfl] at H; exact H
                  clear H
                  have H := H1
                  clear H1
                  have H' := Aside0.mk H
                  clear H
                  go_wp2
                  go_meet
                  case rel => exact ⟨_, (Go.bits .or .u64 x5_13 512), (by first | rfl | (simp; done) | (simp [*]; done)), H', ⟨by have := HJ2.out; have := HJ9.out; have := HJ13.out; first | omega | exact Nat.le_refl _⟩, ⟨by (with_reducible repeat (first | refine blk_drewN ?_ _ | refine blk_drew ?_ | refine blk_alloc ?_ _)); exact BK127.out⟩, ⟨by (with_reducible repeat (first | refine blk_drewN ?_ _ | refine blk_drew ?_ | refine blk_alloc ?_ _)); exact BK128.out⟩, ⟨by repeat (first | (with_reducible first | exact HB.out | apply below_alloc | apply pw_below_drewN | apply below_drew1 | refine below_set ?_ GE127.out | refine below_set ?_ GE128.out) | exact HB.out)⟩⟩
                · replace c21 := Bool.eq_false_iff.mpr c21
                  subst c21
                  have H1 : (mezzanineref12_Pending.j3 kj13 x5_13 a0_0 a0_1 a0_2 a0_3 a0_4 a0_5 a0_6 a0_7 a0_8 a0_9 a0_10 a0_11 a0_12 a0_13 a0_14 a0_15 a0_16 a0_17 a0_18 a0_19 a0_20 a0_21 a0_22 a0_23 a0_24 a0_25 a0_26 a0_27 a0_28 a0_29 a0_30 a0_31 a0_32 a0_33 a0_34 a0_35 a0_36 a0_37 a0_38 a0_39 a0_40 a0_41 a0_42 a0_43 a0_44 a0_45 a0_46 a0_47 a0_48 a0_49 a0_50 a0_51 a0_52 a0_53 a0_54 a0_55 a0_56 a0_57 a0_58 a0_59 a0_60 a0_61 a0_62 a0_63 a0_64 a0_65 a0_66 a0_67 a0_68 a0_69 a0_70 a0_71 a0_72 a0_73 a0_74 a0_75 a0_76 a1_0 a1_1 a1_2 false a1_4 a1_5) = some r := by rw [if_neg (show ¬ (false = true) by decide)] at H; exact H
                  clear H
                  have H := H1
                  clear H1
                  have H' := Aside0.mk H
                  clear H
                  go_wp2
                  go_meet
                  case rel => exact ⟨_, (x5_13), (by first | rfl | (simp; done) | (simp [*]; done)), H', ⟨by have := HJ2.out; have := HJ9.out; have := HJ13.out; first | omega | exact Nat.le_refl _⟩, ⟨by (with_reducible repeat (first | refine blk_drewN ?_ _ | refine blk_drew ?_ | refine blk_alloc ?_ _)); exact BK127.out⟩, ⟨by (with_reducible repeat (first | refine blk_drewN ?_ _ | refine blk_drew ?_ | refine blk_alloc ?_ _)); exact BK128.out⟩, ⟨by repeat (first | (with_reducible first | exact HB.out | apply below_alloc | apply pw_below_drewN | apply below_drew1 | refine below_set ?_ GE127.out | refine below_set ?_ GE128.out) | exact HB.out)⟩⟩
              case rest =>
                clear HC18
                try clear c1
                try clear c2
                try clear p2
                try clear c6
                try clear c9
                try clear c11
                try clear c13
                try clear c15
                try clear c17
                try clear c18
                try clear c19
                try clear c21
                try clear hcz12_0
                try clear hcz12_1
                try clear hcz12_2
                try clear hcz12_3
                try clear hcz12_4
                try clear hcz12_5
                try clear hcz16_0
                try clear hcz16_1
                try clear hcz16_2
                try clear hcz16_3
                try clear hcz16_4
                try clear hcz16_5
                try clear hcz20_0
                try clear hcz20_1
                try clear hcz20_2
                try clear hcz20_3
                try clear hcz20_4
                try clear hcz20_5
                try clear hcz7_42
                try clear hcz7_58
                try clear hcz7_61
                try clear hcz7_63
                try clear hcz8_0
                try clear hcz8_1
                try clear hcz8_2
                try clear hcz8_3
                try clear hcz8_4
                try clear hcz8_5
                try clear hfz12_0
                try clear hfz12_1
                try clear hfz12_2
                try clear hfz12_3
                try clear hfz12_4
                try clear hfz12_5
                try clear hfz16_0
                try clear hfz16_1
                try clear hfz16_2
                try clear hfz16_3
                try clear hfz16_4
                try clear hfz16_5
                try clear hfz20_0
                try clear hfz20_1
                try clear hfz20_2
                try clear hfz20_3
                try clear hfz20_4
                try clear hfz20_5
                try clear hfz7_42
                try clear hfz7_58
                try clear hfz7_61
                try clear hfz7_63
                try clear hfz8_0
                try clear hfz8_1
                try clear hfz8_2
                try clear hfz8_3
                try clear hfz8_4
                try clear hfz8_5
                try clear p2
                obtain ⟨kq, x5_17, rfl, HA, HJ17, BK127, BK128, HB⟩ := hcut
                cases kq with
                | zero => exact absurd HA.out (by simp [mezzanineref12_Pending.j3])
                | succ kj17 =>
                  have H := HA.out
                  clear HA
                  simp only [mezzanineref12_Pending.j3] at H
                  have HC22 := Aside0.mk H
                  clear H
                  go_upto_region 10 with (fail)
                  go_cut [34] (fun v34 wc => ∃ (kq : Nat) (x34_21 : Bool), v34 = .bool x34_21 ∧ Aside0 (mezzanineref12_Pending.j4 kq x5_17 x34_21 a0_0 a0_1 a0_2 a0_3 a0_4 a0_5 a0_6 a0_7 a0_8 a0_9 a0_10 a0_11 a0_12 a0_13 a0_14 a0_15 a0_16 a0_17 a0_18 a0_19 a0_20 a0_21 a0_22 a0_23 a0_24 a0_25 a0_26 a0_27 a0_28 a0_29 a0_30 a0_31 a0_32 a0_33 a0_34 a0_35 a0_36 a0_37 a0_38 a0_39 a0_40 a0_41 a0_42 a0_43 a0_44 a0_45 a0_46 a0_47 a0_48 a0_49 a0_50 a0_51 a0_52 a0_53 a0_54 a0_55 a0_56 a0_57 a0_58 a0_59 a0_60 a0_61 a0_62 a0_63 a0_64 a0_65 a0_66 a0_67 a0_68 a0_69 a0_70 a0_71 a0_72 a0_73 a0_74 a0_75 a0_76 a1_0 a1_1 a1_2 a1_3 a1_4 a1_5 = some r) ∧ Aside0 (kq ≤ kj17) ∧ Aside0 (wc.heap[gb127]? = some (.cells #[.int .u64 a0_0, .int .u64 a0_1, .int .u64 a0_2, .int .u64 a0_3, .int .u64 a0_4, .int .u64 a0_5, .int .u64 a0_6, .int .u64 a0_7, .int .u64 a0_8, .int .u64 a0_9, .int .u64 a0_10, .int .u64 a0_11, .int .u64 a0_12, .int .u64 a0_13, .int .u64 a0_14, .int .u64 a0_15, .int .u64 a0_16, .int .u64 a0_17, .int .u64 a0_18, .int .u64 a0_19, .int .u64 a0_20, .int .u64 a0_21, .int .u64 a0_22, .int .u64 a0_23, .int .u64 a0_24, .int .u64 a0_25, .int .u64 a0_26, .int .u64 a0_27, .int .u64 a0_28, .int .u64 a0_29, .int .u64 a0_30, .int .u64 a0_31, .int .u64 a0_32, .int .u8 a0_33, .bool a0_34, .bool a0_35, .bool a0_36, .int .u64 a0_37, .int .u64 a0_38, .int .u64 a0_39, .int .u64 a0_40, .int .u64 a0_41, .int .u64 a0_42, .int .u64 a0_43, .int .u64 a0_44, .int .u64 a0_45, .int .u64 a0_46, .int .u64 a0_47, .int .u64 a0_48, .int .u64 a0_49, .int .u64 a0_50, .int .u64 a0_51, .int .u64 a0_52, .int .u64 a0_53, .int .u64 a0_54, .int .u64 a0_55, .int .u64 a0_56, .int .u64 a0_57, .int .u64 a0_58, .int .u64 a0_59, .int .u64 a0_60, .int .u64 a0_61, .int .u64 a0_62, .int .u64 a0_63, .int .u64 a0_64, .int .u64 a0_65, .int .u64 a0_66, .int .u64 a0_67, .int .u64 a0_68, .int .u64 a0_69, .int .u64 a0_70, .int .u64 a0_71, .int .u64 a0_72, .int .u64 a0_73, .int .u64 a0_74, .int .u64 a0_75, .int .u64 a0_76] 25 (0, 0))) ∧ Aside0 (wc.heap[gb128]? = some (.cells #[.bool a1_0, .bool a1_1, .bool a1_2, .bool a1_3, .int .u64 a1_4, .int .u64 a1_5] 27 (0, 0))) ∧ Aside0 (Below w.heap.size w wc))
                  case first =>
                    have H := HC22.out
                    clear HC22
                    replace H := Option.bind_eq_some_iff.mp H
                    obtain ⟨t129, A230, H⟩ := H
                    replace H : (if t129 = true then ((mezzanineref12_bit.f a1_4 1).bind fun t130 => (mezzanineref12_Pending.j4 kj17 x5_17 t130 a0_0 a0_1 a0_2 a0_3 a0_4 a0_5 a0_6 a0_7 a0_8 a0_9 a0_10 a0_11 a0_12 a0_13 a0_14 a0_15 a0_16 a0_17 a0_18 a0_19 a0_20 a0_21 a0_22 a0_23 a0_24 a0_25 a0_26 a0_27 a0_28 a0_29 a0_30 a0_31 a0_32 a0_33 a0_34 a0_35 a0_36 a0_37 a0_38 a0_39 a0_40 a0_41 a0_42 a0_43 a0_44 a0_45 a0_46 a0_47 a0_48 a0_49 a0_50 a0_51 a0_52 a0_53 a0_54 a0_55 a0_56 a0_57 a0_58 a0_59 a0_60 a0_61 a0_62 a0_63 a0_64 a0_65 a0_66 a0_67 a0_68 a0_69 a0_70 a0_71 a0_72 a0_73 a0_74 a0_75 a0_76 a1_0 a1_1 a1_2 a1_3 a1_4 a1_5)) else (mezzanineref12_Pending.j4 kj17 x5_17 false a0_0 a0_1 a0_2 a0_3 a0_4 a0_5 a0_6 a0_7 a0_8 a0_9 a0_10 a0_11 a0_12 a0_13 a0_14 a0_15 a0_16 a0_17 a0_18 a0_19 a0_20 a0_21 a0_22 a0_23 a0_24 a0_25 a0_26 a0_27 a0_28 a0_29 a0_30 a0_31 a0_32 a0_33 a0_34 a0_35 a0_36 a0_37 a0_38 a0_39 a0_40 a0_41 a0_42 a0_43 a0_44 a0_45 a0_46 a0_47 a0_48 a0_49 a0_50 a0_51 a0_52 a0_53 a0_54 a0_55 a0_56 a0_57 a0_58 a0_59 a0_60 a0_61 a0_62 a0_63 a0_64 a0_65 a0_66 a0_67 a0_68 a0_69 a0_70 a0_71 a0_72 a0_73 a0_74 a0_75 a0_76 a1_0 a1_1 a1_2 a1_3 a1_4 a1_5)) = some r := H
                    have A23 := Aside0.mk A230
                    clear A230
                    by_cases c24 : t129 = true
                    · subst c24
                      have H1 : ((mezzanineref12_bit.f a1_4 1).bind fun t130 => (mezzanineref12_Pending.j4 kj17 x5_17 t130 a0_0 a0_1 a0_2 a0_3 a0_4 a0_5 a0_6 a0_7 a0_8 a0_9 a0_10 a0_11 a0_12 a0_13 a0_14 a0_15 a0_16 a0_17 a0_18 a0_19 a0_20 a0_21 a0_22 a0_23 a0_24 a0_25 a0_26 a0_27 a0_28 a0_29 a0_30 a0_31 a0_32 a0_33 a0_34 a0_35 a0_36 a0_37 a0_38 a0_39 a0_40 a0_41 a0_42 a0_43 a0_44 a0_45 a0_46 a0_47 a0_48 a0_49 a0_50 a0_51 a0_52 a0_53 a0_54 a0_55 a0_56 a0_57 a0_58 a0_59 a0_60 a0_61 a0_62 a0_63 a0_64 a0_65 a0_66 a0_67 a0_68 a0_69 a0_70 a0_71 a0_72 a0_73 a0_74 a0_75 a0_76 a1_0 a1_1 a1_2 a1_3 a1_4 a1_5)) = some r := by rw [if_pos rfl] at H; exact H
                      clear H
                      have H := H1
                      clear H1
                      replace H := Option.bind_eq_some_iff.mp H
                      obtain ⟨t130, A250, H⟩ := H
                      replace H : (mezzanineref12_Pending.j4 kj17 x5_17 t130 a0_0 a0_1 a0_2 a0_3 a0_4 a0_5 a0_6 a0_7 a0_8 a0_9 a0_10 a0_11 a0_12 a0_13 a0_14 a0_15 a0_16 a0_17 a0_18 a0_19 a0_20 a0_21 a0_22 a0_23 a0_24 a0_25 a0_26 a0_27 a0_28 a0_29 a0_30 a0_31 a0_32 a0_33 a0_34 a0_35 a0_36 a0_37 a0_38 a0_39 a0_40 a0_41 a0_42 a0_43 a0_44 a0_45 a0_46 a0_47 a0_48 a0_49 a0_50 a0_51 a0_52 a0_53 a0_54 a0_55 a0_56 a0_57 a0_58 a0_59 a0_60 a0_61 a0_62 a0_63 a0_64 a0_65 a0_66 a0_67 a0_68 a0_69 a0_70 a0_71 a0_72 a0_73 a0_74 a0_75 a0_76 a1_0 a1_1 a1_2 a1_3 a1_4 a1_5) = some r := H
                      have A25 := Aside0.mk A250
                      clear A250
                      have H' := Aside0.mk H
                      clear H
                      have hnb26 := NB127_128.out
                      have hnc26 := NB128_127.out
                      have hcz27_42 : wc.cell? ⟨gb127, 42, none⟩ = some (.int .u64 a0_42) := (blk_cell BK127.out 42).trans rfl
                      have hcz27_58 : wc.cell? ⟨gb127, 58, none⟩ = some (.int .u64 a0_58) := (blk_cell BK127.out 58).trans rfl
                      have hcz27_61 : wc.cell? ⟨gb127, 61, none⟩ = some (.int .u64 a0_61) := (blk_cell BK127.out 61).trans rfl
                      have hcz27_63 : wc.cell? ⟨gb127, 63, none⟩ = some (.int .u64 a0_63) := (blk_cell BK127.out 63).trans rfl
                      have hfz27_42 := blk_frozen BK127.out 42
                      have hfz27_58 := blk_frozen BK127.out 58
                      have hfz27_61 := blk_frozen BK127.out 61
                      have hfz27_63 := blk_frozen BK127.out 63
                      go_wp2_with (first | ((with_reducible refine gate_callee (f := 31) rfl ?_); refine goesL_ (some 29) rfl rfl Tryd.func31 (by kernel_rfl) rfl #[.int .u64 a0_58, .int .u64 12] rfl (by (try simp only [List.map_toArray, List.map_cons, List.map_nil]); first | done | rfl | (simp only [List.length_drop, List.length_take]; rfl)) ?_; (with_reducible refine (mezzanineref12_bit.calls a0_58 12 true _ A23.out).mono ?_); rintro e w' ⟨rfl, ⟨nd, rfl⟩⟩; refine ⟨_, rfl, ?_⟩; have hcz28_0 : wc.cell? ⟨gb128, 0, none⟩ = some (.bool a1_0) := (blk_cell BK128.out 0).trans rfl; have hcz28_1 : wc.cell? ⟨gb128, 1, none⟩ = some (.bool a1_1) := (blk_cell BK128.out 1).trans rfl; have hcz28_2 : wc.cell? ⟨gb128, 2, none⟩ = some (.bool a1_2) := (blk_cell BK128.out 2).trans rfl; have hcz28_3 : wc.cell? ⟨gb128, 3, none⟩ = some (.bool a1_3) := (blk_cell BK128.out 3).trans rfl; have hcz28_4 : wc.cell? ⟨gb128, 4, none⟩ = some (.int .u64 a1_4) := (blk_cell BK128.out 4).trans rfl; have hcz28_5 : wc.cell? ⟨gb128, 5, none⟩ = some (.int .u64 a1_5) := (blk_cell BK128.out 5).trans rfl; have hfz28_0 := blk_frozen BK128.out 0; have hfz28_1 := blk_frozen BK128.out 1; have hfz28_2 := blk_frozen BK128.out 2; have hfz28_3 := blk_frozen BK128.out 3; have hfz28_4 := blk_frozen BK128.out 4; have hfz28_5 := blk_frozen BK128.out 5) | (go_at_call 31; (with_reducible refine (mezzanineref12_bit.calls a1_4 1 t130 _ A25.out).mono ?_); rintro e w' ⟨rfl, ⟨nd, rfl⟩⟩))
                      go_meet
                      case rel => exact ⟨_, (t130), (by first | rfl | (simp; done) | (simp [*]; done)), H', ⟨by have := HJ2.out; have := HJ9.out; have := HJ13.out; have := HJ17.out; first | omega | exact Nat.le_refl _⟩, ⟨by (with_reducible repeat (first | refine blk_drewN ?_ _ | refine blk_drew ?_ | refine blk_alloc ?_ _)); exact BK127.out⟩, ⟨by (with_reducible repeat (first | refine blk_drewN ?_ _ | refine blk_drew ?_ | refine blk_alloc ?_ _)); exact BK128.out⟩, ⟨by repeat (first | (with_reducible first | exact HB.out | apply below_alloc | apply pw_below_drewN | apply below_drew1 | refine below_set ?_ GE127.out | refine below_set ?_ GE128.out) | exact HB.out)⟩⟩
                    · replace c24 := Bool.eq_false_iff.mpr c24
                      subst c24
                      have H1 : (mezzanineref12_Pending.j4 kj17 x5_17 false a0_0 a0_1 a0_2 a0_3 a0_4 a0_5 a0_6 a0_7 a0_8 a0_9 a0_10 a0_11 a0_12 a0_13 a0_14 a0_15 a0_16 a0_17 a0_18 a0_19 a0_20 a0_21 a0_22 a0_23 a0_24 a0_25 a0_26 a0_27 a0_28 a0_29 a0_30 a0_31 a0_32 a0_33 a0_34 a0_35 a0_36 a0_37 a0_38 a0_39 a0_40 a0_41 a0_42 a0_43 a0_44 a0_45 a0_46 a0_47 a0_48 a0_49 a0_50 a0_51 a0_52 a0_53 a0_54 a0_55 a0_56 a0_57 a0_58 a0_59 a0_60 a0_61 a0_62 a0_63 a0_64 a0_65 a0_66 a0_67 a0_68 a0_69 a0_70 a0_71 a0_72 a0_73 a0_74 a0_75 a0_76 a1_0 a1_1 a1_2 a1_3 a1_4 a1_5) = some r := by rw [if_neg (show ¬ (false = true) by decide)] at H; exact H
                      clear H
                      have H := H1
                      clear H1
                      have H' := Aside0.mk H
                      clear H
                      have hnb29 := NB127_128.out
                      have hnc29 := NB128_127.out
                      have hcz30_42 : wc.cell? ⟨gb127, 42, none⟩ = some (.int .u64 a0_42) := (blk_cell BK127.out 42).trans rfl
                      have hcz30_58 : wc.cell? ⟨gb127, 58, none⟩ = some (.int .u64 a0_58) := (blk_cell BK127.out 58).trans rfl
                      have hcz30_61 : wc.cell? ⟨gb127, 61, none⟩ = some (.int .u64 a0_61) := (blk_cell BK127.out 61).trans rfl
                      have hcz30_63 : wc.cell? ⟨gb127, 63, none⟩ = some (.int .u64 a0_63) := (blk_cell BK127.out 63).trans rfl
                      have hfz30_42 := blk_frozen BK127.out 42
                      have hfz30_58 := blk_frozen BK127.out 58
                      have hfz30_61 := blk_frozen BK127.out 61
                      have hfz30_63 := blk_frozen BK127.out 63
                      go_wp2_with (first | ((with_reducible refine gate_callee (f := 31) rfl ?_); refine goesL_ (some 29) rfl rfl Tryd.func31 (by kernel_rfl) rfl #[.int .u64 a0_58, .int .u64 12] rfl (by (try simp only [List.map_toArray, List.map_cons, List.map_nil]); first | done | rfl | (simp only [List.length_drop, List.length_take]; rfl)) ?_; (with_reducible refine (mezzanineref12_bit.calls a0_58 12 false _ A23.out).mono ?_); rintro e w' ⟨rfl, ⟨nd, rfl⟩⟩; refine ⟨_, rfl, ?_⟩))
                      go_meet
                      case rel => exact ⟨_, (false), (by first | rfl | (simp; done) | (simp [*]; done)), H', ⟨by have := HJ2.out; have := HJ9.out; have := HJ13.out; have := HJ17.out; first | omega | exact Nat.le_refl _⟩, ⟨by (with_reducible repeat (first | refine blk_drewN ?_ _ | refine blk_drew ?_ | refine blk_alloc ?_ _)); exact BK127.out⟩, ⟨by (with_reducible repeat (first | refine blk_drewN ?_ _ | refine blk_drew ?_ | refine blk_alloc ?_ _)); exact BK128.out⟩, ⟨by repeat (first | (with_reducible first | exact HB.out | apply below_alloc | apply pw_below_drewN | apply below_drew1 | refine below_set ?_ GE127.out | refine below_set ?_ GE128.out) | exact HB.out)⟩⟩
                  case rest =>
                    clear HC22
                    try clear c1
                    try clear c2
                    try clear p2
                    try clear c3
                    try clear c6
                    try clear c9
                    try clear c11
                    try clear c13
                    try clear c15
                    try clear c17
                    try clear c18
                    try clear c19
                    try clear c21
                    try clear c24
                    try clear c26
                    try clear c29
                    try clear hcz12_0
                    try clear hcz12_1
                    try clear hcz12_2
                    try clear hcz12_3
                    try clear hcz12_4
                    try clear hcz12_5
                    try clear hcz16_0
                    try clear hcz16_1
                    try clear hcz16_2
                    try clear hcz16_3
                    try clear hcz16_4
                    try clear hcz16_5
                    try clear hcz20_0
                    try clear hcz20_1
                    try clear hcz20_2
                    try clear hcz20_3
                    try clear hcz20_4
                    try clear hcz20_5
                    try clear hcz27_42
                    try clear hcz27_58
                    try clear hcz27_61
                    try clear hcz27_63
                    try clear hcz28_0
                    try clear hcz28_1
                    try clear hcz28_2
                    try clear hcz28_3
                    try clear hcz28_4
                    try clear hcz28_5
                    try clear hcz30_42
                    try clear hcz30_58
                    try clear hcz30_61
                    try clear hcz30_63
                    try clear hcz7_42
                    try clear hcz7_58
                    try clear hcz7_61
                    try clear hcz7_63
                    try clear hcz8_0
                    try clear hcz8_1
                    try clear hcz8_2
                    try clear hcz8_3
                    try clear hcz8_4
                    try clear hcz8_5
                    try clear hfz12_0
                    try clear hfz12_1
                    try clear hfz12_2
                    try clear hfz12_3
                    try clear hfz12_4
                    try clear hfz12_5
                    try clear hfz16_0
                    try clear hfz16_1
                    try clear hfz16_2
                    try clear hfz16_3
                    try clear hfz16_4
                    try clear hfz16_5
                    try clear hfz20_0
                    try clear hfz20_1
                    try clear hfz20_2
                    try clear hfz20_3
                    try clear hfz20_4
                    try clear hfz20_5
                    try clear hfz27_42
                    try clear hfz27_58
                    try clear hfz27_61
                    try clear hfz27_63
                    try clear hfz28_0
                    try clear hfz28_1
                    try clear hfz28_2
                    try clear hfz28_3
                    try clear hfz28_4
                    try clear hfz28_5
                    try clear hfz30_42
                    try clear hfz30_58
                    try clear hfz30_61
                    try clear hfz30_63
                    try clear hfz7_42
                    try clear hfz7_58
                    try clear hfz7_61
                    try clear hfz7_63
                    try clear hfz8_0
                    try clear hfz8_1
                    try clear hfz8_2
                    try clear hfz8_3
                    try clear hfz8_4
                    try clear hfz8_5
                    try clear p2
                    obtain ⟨kq, x34_21, rfl, HA, HJ21, BK127, BK128, HB⟩ := hcut
                    cases kq with
                    | zero => exact absurd HA.out (by simp [mezzanineref12_Pending.j4])
                    | succ kj21 =>
                      have H := HA.out
                      clear HA
                      simp only [mezzanineref12_Pending.j4] at H
                      by_cases c31 : x34_21 = true
                      · subst c31
                        have H1 : (if (Go.bits .and .u64 a1_4 a0_63) = 0 then (some (Go.bits .or .u64 x5_17 1024)) else (some (Go.bits .or .u64 (Go.bits .or .u64 x5_17 1024) 4096))) = some r := by rw [if_pos rfl] at H; exact H
                        clear H
                        have H := H1
                        clear H1
                        by_cases c32 : (Go.bits .and .u64 a1_4 a0_63) = 0
                        · rw [if_pos c32] at H
                          have c32b0 : ((Go.bits .and .u64 a1_4 a0_63) == 0) = true := beq_iff_eq.mpr c32
                          have c32b1 : ((Go.bits .and .u64 a1_4 a0_63) != 0) = false := bne_eq_false_iff_eq.mpr c32
                          clear c32
                          obtain rfl := Option.some.inj H
                          have hnb33 := NB128_127.out
                          have hnc33 := NB127_128.out
                          have hcz34_0 : wc.cell? ⟨gb128, 0, none⟩ = some (.bool a1_0) := (blk_cell BK128.out 0).trans rfl
                          have hcz34_1 : wc.cell? ⟨gb128, 1, none⟩ = some (.bool a1_1) := (blk_cell BK128.out 1).trans rfl
                          have hcz34_2 : wc.cell? ⟨gb128, 2, none⟩ = some (.bool a1_2) := (blk_cell BK128.out 2).trans rfl
                          have hcz34_3 : wc.cell? ⟨gb128, 3, none⟩ = some (.bool a1_3) := (blk_cell BK128.out 3).trans rfl
                          have hcz34_4 : wc.cell? ⟨gb128, 4, none⟩ = some (.int .u64 a1_4) := (blk_cell BK128.out 4).trans rfl
                          have hcz34_5 : wc.cell? ⟨gb128, 5, none⟩ = some (.int .u64 a1_5) := (blk_cell BK128.out 5).trans rfl
                          have hfz34_0 := blk_frozen BK128.out 0
                          have hfz34_1 := blk_frozen BK128.out 1
                          have hfz34_2 := blk_frozen BK128.out 2
                          have hfz34_3 := blk_frozen BK128.out 3
                          have hfz34_4 := blk_frozen BK128.out 4
                          have hfz34_5 := blk_frozen BK128.out 5
                          have hcz35_42 : wc.cell? ⟨gb127, 42, none⟩ = some (.int .u64 a0_42) := (blk_cell BK127.out 42).trans rfl
                          have hcz35_58 : wc.cell? ⟨gb127, 58, none⟩ = some (.int .u64 a0_58) := (blk_cell BK127.out 58).trans rfl
                          have hcz35_61 : wc.cell? ⟨gb127, 61, none⟩ = some (.int .u64 a0_61) := (blk_cell BK127.out 61).trans rfl
                          have hcz35_63 : wc.cell? ⟨gb127, 63, none⟩ = some (.int .u64 a0_63) := (blk_cell BK127.out 63).trans rfl
                          have hfz35_42 := blk_frozen BK127.out 42
                          have hfz35_58 := blk_frozen BK127.out 58
                          have hfz35_61 := blk_frozen BK127.out 61
                          have hfz35_63 := blk_frozen BK127.out 63
                          go_wp2
                          go_ret
                          exact ⟨by first | rfl | (simp [errW_none, errW_some] <;> rfl) | (simp [*, errW_none, errW_some] <;> rfl), by repeat (first | (with_reducible first | exact HB.out | apply below_alloc | apply pw_below_drewN | apply below_drew1 | refine below_set ?_ GE127.out | refine below_set ?_ GE128.out) | exact HB.out)⟩
                        · rw [if_neg c32] at H
                          have c32b0 : ((Go.bits .and .u64 a1_4 a0_63) == 0) = false := beq_eq_false_iff_ne.mpr c32
                          have c32b1 : ((Go.bits .and .u64 a1_4 a0_63) != 0) = true := bne_iff_ne.mpr c32
                          obtain rfl := Option.some.inj H
                          have hnb36 := NB128_127.out
                          have hnc36 := NB127_128.out
                          have hcz37_0 : wc.cell? ⟨gb128, 0, none⟩ = some (.bool a1_0) := (blk_cell BK128.out 0).trans rfl
                          have hcz37_1 : wc.cell? ⟨gb128, 1, none⟩ = some (.bool a1_1) := (blk_cell BK128.out 1).trans rfl
                          have hcz37_2 : wc.cell? ⟨gb128, 2, none⟩ = some (.bool a1_2) := (blk_cell BK128.out 2).trans rfl
                          have hcz37_3 : wc.cell? ⟨gb128, 3, none⟩ = some (.bool a1_3) := (blk_cell BK128.out 3).trans rfl
                          have hcz37_4 : wc.cell? ⟨gb128, 4, none⟩ = some (.int .u64 a1_4) := (blk_cell BK128.out 4).trans rfl
                          have hcz37_5 : wc.cell? ⟨gb128, 5, none⟩ = some (.int .u64 a1_5) := (blk_cell BK128.out 5).trans rfl
                          have hfz37_0 := blk_frozen BK128.out 0
                          have hfz37_1 := blk_frozen BK128.out 1
                          have hfz37_2 := blk_frozen BK128.out 2
                          have hfz37_3 := blk_frozen BK128.out 3
                          have hfz37_4 := blk_frozen BK128.out 4
                          have hfz37_5 := blk_frozen BK128.out 5
                          have hcz38_42 : wc.cell? ⟨gb127, 42, none⟩ = some (.int .u64 a0_42) := (blk_cell BK127.out 42).trans rfl
                          have hcz38_58 : wc.cell? ⟨gb127, 58, none⟩ = some (.int .u64 a0_58) := (blk_cell BK127.out 58).trans rfl
                          have hcz38_61 : wc.cell? ⟨gb127, 61, none⟩ = some (.int .u64 a0_61) := (blk_cell BK127.out 61).trans rfl
                          have hcz38_63 : wc.cell? ⟨gb127, 63, none⟩ = some (.int .u64 a0_63) := (blk_cell BK127.out 63).trans rfl
                          have hfz38_42 := blk_frozen BK127.out 42
                          have hfz38_58 := blk_frozen BK127.out 58
                          have hfz38_61 := blk_frozen BK127.out 61
                          have hfz38_63 := blk_frozen BK127.out 63
                          go_wp2
                          go_ret
                          exact ⟨by first | rfl | (simp [errW_none, errW_some] <;> rfl) | (simp [*, errW_none, errW_some] <;> rfl), by repeat (first | (with_reducible first | exact HB.out | apply below_alloc | apply pw_below_drewN | apply below_drew1 | refine below_set ?_ GE127.out | refine below_set ?_ GE128.out) | exact HB.out)⟩
                      · replace c31 := Bool.eq_false_iff.mpr c31
                        subst c31
                        have H1 : (if (Go.bits .and .u64 a1_4 a0_63) = 0 then (some x5_17) else (some (Go.bits .or .u64 x5_17 4096))) = some r := by rw [if_neg (show ¬ (false = true) by decide)] at H; exact H
                        clear H
                        have H := H1
                        clear H1
                        by_cases c39 : (Go.bits .and .u64 a1_4 a0_63) = 0
                        · rw [if_pos c39] at H
                          have c39b0 : ((Go.bits .and .u64 a1_4 a0_63) == 0) = true := beq_iff_eq.mpr c39
                          have c39b1 : ((Go.bits .and .u64 a1_4 a0_63) != 0) = false := bne_eq_false_iff_eq.mpr c39
                          clear c39
                          obtain rfl := Option.some.inj H
                          have hnb40 := NB128_127.out
                          have hnc40 := NB127_128.out
                          have hcz41_0 : wc.cell? ⟨gb128, 0, none⟩ = some (.bool a1_0) := (blk_cell BK128.out 0).trans rfl
                          have hcz41_1 : wc.cell? ⟨gb128, 1, none⟩ = some (.bool a1_1) := (blk_cell BK128.out 1).trans rfl
                          have hcz41_2 : wc.cell? ⟨gb128, 2, none⟩ = some (.bool a1_2) := (blk_cell BK128.out 2).trans rfl
                          have hcz41_3 : wc.cell? ⟨gb128, 3, none⟩ = some (.bool a1_3) := (blk_cell BK128.out 3).trans rfl
                          have hcz41_4 : wc.cell? ⟨gb128, 4, none⟩ = some (.int .u64 a1_4) := (blk_cell BK128.out 4).trans rfl
                          have hcz41_5 : wc.cell? ⟨gb128, 5, none⟩ = some (.int .u64 a1_5) := (blk_cell BK128.out 5).trans rfl
                          have hfz41_0 := blk_frozen BK128.out 0
                          have hfz41_1 := blk_frozen BK128.out 1
                          have hfz41_2 := blk_frozen BK128.out 2
                          have hfz41_3 := blk_frozen BK128.out 3
                          have hfz41_4 := blk_frozen BK128.out 4
                          have hfz41_5 := blk_frozen BK128.out 5
                          have hcz42_42 : wc.cell? ⟨gb127, 42, none⟩ = some (.int .u64 a0_42) := (blk_cell BK127.out 42).trans rfl
                          have hcz42_58 : wc.cell? ⟨gb127, 58, none⟩ = some (.int .u64 a0_58) := (blk_cell BK127.out 58).trans rfl
                          have hcz42_61 : wc.cell? ⟨gb127, 61, none⟩ = some (.int .u64 a0_61) := (blk_cell BK127.out 61).trans rfl
                          have hcz42_63 : wc.cell? ⟨gb127, 63, none⟩ = some (.int .u64 a0_63) := (blk_cell BK127.out 63).trans rfl
                          have hfz42_42 := blk_frozen BK127.out 42
                          have hfz42_58 := blk_frozen BK127.out 58
                          have hfz42_61 := blk_frozen BK127.out 61
                          have hfz42_63 := blk_frozen BK127.out 63
                          go_wp2
                          go_ret
                          exact ⟨by first | rfl | (simp [errW_none, errW_some] <;> rfl) | (simp [*, errW_none, errW_some] <;> rfl), by repeat (first | (with_reducible first | exact HB.out | apply below_alloc | apply pw_below_drewN | apply below_drew1 | refine below_set ?_ GE127.out | refine below_set ?_ GE128.out) | exact HB.out)⟩
                        · rw [if_neg c39] at H
                          have c39b0 : ((Go.bits .and .u64 a1_4 a0_63) == 0) = false := beq_eq_false_iff_ne.mpr c39
                          have c39b1 : ((Go.bits .and .u64 a1_4 a0_63) != 0) = true := bne_iff_ne.mpr c39
                          obtain rfl := Option.some.inj H
                          have hnb43 := NB128_127.out
                          have hnc43 := NB127_128.out
                          have hcz44_0 : wc.cell? ⟨gb128, 0, none⟩ = some (.bool a1_0) := (blk_cell BK128.out 0).trans rfl
                          have hcz44_1 : wc.cell? ⟨gb128, 1, none⟩ = some (.bool a1_1) := (blk_cell BK128.out 1).trans rfl
                          have hcz44_2 : wc.cell? ⟨gb128, 2, none⟩ = some (.bool a1_2) := (blk_cell BK128.out 2).trans rfl
                          have hcz44_3 : wc.cell? ⟨gb128, 3, none⟩ = some (.bool a1_3) := (blk_cell BK128.out 3).trans rfl
                          have hcz44_4 : wc.cell? ⟨gb128, 4, none⟩ = some (.int .u64 a1_4) := (blk_cell BK128.out 4).trans rfl
                          have hcz44_5 : wc.cell? ⟨gb128, 5, none⟩ = some (.int .u64 a1_5) := (blk_cell BK128.out 5).trans rfl
                          have hfz44_0 := blk_frozen BK128.out 0
                          have hfz44_1 := blk_frozen BK128.out 1
                          have hfz44_2 := blk_frozen BK128.out 2
                          have hfz44_3 := blk_frozen BK128.out 3
                          have hfz44_4 := blk_frozen BK128.out 4
                          have hfz44_5 := blk_frozen BK128.out 5
                          have hcz45_42 : wc.cell? ⟨gb127, 42, none⟩ = some (.int .u64 a0_42) := (blk_cell BK127.out 42).trans rfl
                          have hcz45_58 : wc.cell? ⟨gb127, 58, none⟩ = some (.int .u64 a0_58) := (blk_cell BK127.out 58).trans rfl
                          have hcz45_61 : wc.cell? ⟨gb127, 61, none⟩ = some (.int .u64 a0_61) := (blk_cell BK127.out 61).trans rfl
                          have hcz45_63 : wc.cell? ⟨gb127, 63, none⟩ = some (.int .u64 a0_63) := (blk_cell BK127.out 63).trans rfl
                          have hfz45_42 := blk_frozen BK127.out 42
                          have hfz45_58 := blk_frozen BK127.out 58
                          have hfz45_61 := blk_frozen BK127.out 61
                          have hfz45_63 := blk_frozen BK127.out 63
                          go_wp2
                          go_ret
                          exact ⟨by first | rfl | (simp [errW_none, errW_some] <;> rfl) | (simp [*, errW_none, errW_some] <;> rfl), by repeat (first | (with_reducible first | exact HB.out | apply below_alloc | apply pw_below_drewN | apply below_drew1 | refine below_set ?_ GE127.out | refine below_set ?_ GE128.out) | exact HB.out)⟩

end Go.Proofs.YtpbodidpcbodaaaDoor.Q

namespace Go.Proofs.YtpbodidpcbodaaaDoor.Q
open Go.Proofs.YtpbodidpcbodaaaDoor.Bv (exec_load_cells CellsAnd)
open Go.RowKit Go.Proofs.YtpbodidpcbodaaaDoorW.PrintWords Go.Proofs.YtpbodidpcbodaaaDoorW.PrintLast Go.Proofs.YtpbodidpcbodaaaDoorW.PrintMore
attribute [local go_sem] max2_int min2_int max_two min_two max_three min_three max_four min_four   -- for this text's walks alone
set_option linter.unusedVariables false
set_option linter.unusedSimpArgs false

/-! ### mezzanineref13_bit: function 19 -/
def mezzanineref13_bit.f (a0 : Int) (a1 : Int) : Option (Bool) := if 0 ≤ (IntKind.u64.wrap (a1)) then (some ((Go.bits .and .u64 (shr .u64 a0 (IntKind.u64.wrap (a1))) 1) == 1)) else (none)
set_option maxHeartbeats 8000000 in
set_option maxRecDepth 100000 in
theorem mezzanineref13_bit.calls (a0 : Int) (a1 : Int) (r : Bool) (w : World) (h : mezzanineref13_bit.f a0 a1 = some r) :
    Calls Tryd.prog 19 #[.int .u64 a0, .int .i64 a1] w fun e w' => e = .returned (.bool r) ∧ Drawn0 w w' := by
  have H : (if 0 ≤ (IntKind.u64.wrap (a1)) then (some ((Go.bits .and .u64 (shr .u64 a0 (IntKind.u64.wrap (a1))) 1) == 1)) else (none)) = some r := h
  clear h
  obtain ⟨ji3, hji3⟩ : ∃ j_ : Int, (IntKind.u64.wrap (a1)) = j_ := ⟨_, rfl⟩
  replace H : (if 0 ≤ (ji3) then (some ((Go.bits .and .u64 (shr .u64 a0 (ji3)) 1) == 1)) else (none)) = some r := by first | (rw [hji3] at H; exact H) | (simp only [hji3] at H ⊢; exact H)
  by_cases c4 : 0 ≤ (ji3)
  · rw [if_pos c4] at H
    have c4b0 := eq_true c4
    have c4b1 : decide (0 ≤ (ji3)) = true := decide_eq_true c4
    clear c4
    obtain ⟨ji5, hji5⟩ : ∃ j_ : Int, (shr .u64 a0 (ji3)) = j_ := ⟨_, rfl⟩
    replace H : (some ((Go.bits .and .u64 (ji5) 1) == 1)) = some r := by first | (rw [hji5] at H; exact H) | (simp only [hji5] at H ⊢; exact H)
    have hji5_ : (a0 / 2 ^ min (ji3).toNat 64) = ji5 := hji5
    have hji5z : (ji3) ≤ 64 → (a0 / 2 ^ (ji3).toNat) = ji5 := shr_small hji5
    obtain rfl := Option.some.inj H
    go_enter Tryd.func19, Tryd.ntmps19
    go_wp2
    go_ret
    exact ⟨by first | rfl | (simp; done) | (simp only [← hji3, ← hji5] <;> (first | rfl | simp)) | (simp [*]; done), by repeat (first | exact Drawn0.refl _ | apply Drawn0.step)⟩
  · rw [if_neg c4] at H
    exact absurd H (by simp)

/-! ### mezzanineref13_Rank: function 22 -/
def mezzanineref13_Rank.f (a0 : Int) : Option (Int) := if a0 = 11 then (some 0) else (if a0 = 3 then (some 1) else (if a0 = 7 then (some 2) else (if a0 = 9 then (some 3) else (if a0 = 1 then (some 4) else (if a0 = 5 then (some 5) else (if a0 = 12 then (some 6) else (if a0 = 10 then (some 7) else (if a0 = 2 then (some 8) else (if a0 = 6 then (some 9) else (some (wrap64 (100 + a0))))))))))))
set_option maxHeartbeats 8000000 in
set_option maxRecDepth 100000 in
theorem mezzanineref13_Rank.calls (a0 : Int) (r : Int) (w : World) (h : mezzanineref13_Rank.f a0 = some r) :
    Calls Tryd.prog 22 #[.int .i64 a0] w fun e w' => e = .returned (.int .i64 r) ∧ Drawn0 w w' := by
  have H : (if a0 = 11 then (some 0) else (if a0 = 3 then (some 1) else (if a0 = 7 then (some 2) else (if a0 = 9 then (some 3) else (if a0 = 1 then (some 4) else (if a0 = 5 then (some 5) else (if a0 = 12 then (some 6) else (if a0 = 10 then (some 7) else (if a0 = 2 then (some 8) else (if a0 = 6 then (some 9) else (some (wrap64 (100 + a0))))))))))))) = some r := h
  clear h
  by_cases c2 : a0 = 11
  · rw [if_pos c2] at H
    have c2b0 : (a0 == 11) = true := beq_iff_eq.mpr c2
    have c2b1 : (a0 != 11) = false := bne_eq_false_iff_eq.mpr c2
    clear c2
    obtain rfl := Option.some.inj H
    go_enter Tryd.func22, Tryd.ntmps22
    go_wp2
    go_ret
    exact ⟨by first | rfl | (simp; done) | (simp [*]; done), by repeat (first | exact Drawn0.refl _ | apply Drawn0.step)⟩
  · rw [if_neg c2] at H
    have c2b0 : (a0 == 11) = false := beq_eq_false_iff_ne.mpr c2
    have c2b1 : (a0 != 11) = true := bne_iff_ne.mpr c2
    by_cases c3 : a0 = 3
    · rw [if_pos c3] at H
      have c3b0 : (a0 == 3) = true := beq_iff_eq.mpr c3
      have c3b1 : (a0 != 3) = false := bne_eq_false_iff_eq.mpr c3
      clear c3
      obtain rfl := Option.some.inj H
      go_enter Tryd.func22, Tryd.ntmps22
      go_wp2
      go_ret
      exact ⟨by first | rfl | (simp; done) | (simp [*]; done), by repeat (first | exact Drawn0.refl _ | apply Drawn0.step)⟩
    · rw [if_neg c3] at H
      have c3b0 : (a0 == 3) = false := beq_eq_false_iff_ne.mpr c3
      have c3b1 : (a0 != 3) = true := bne_iff_ne.mpr c3
      by_cases c4 : a0 = 7
      · rw [if_pos c4] at H
        have c4b0 : (a0 == 7) = true := beq_iff_eq.mpr c4
        have c4b1 : (a0 != 7) = false := bne_eq_false_iff_eq.mpr c4
        clear c4
        obtain rfl := Option.some.inj H
        go_enter Tryd.func22, Tryd.ntmps22
        go_wp2
        go_ret
        exact ⟨by first | rfl | (simp; done) | (simp [*]; done), by repeat (first | exact Drawn0.refl _ | apply Drawn0.step)⟩
      · rw [if_neg c4] at H
        have c4b0 : (a0 == 7) = false := beq_eq_false_iff_ne.mpr c4
        have c4b1 : (a0 != 7) = true := bne_iff_ne.mpr c4
        by_cases c5 : a0 = 9
        · rw [if_pos c5] at H
          have c5b0 : (a0 == 9) = true := beq_iff_eq.mpr c5
          have c5b1 : (a0 != 9) = false := bne_eq_false_iff_eq.mpr c5
          clear c5
          obtain rfl := Option.some.inj H
          go_enter Tryd.func22, Tryd.ntmps22
          go_wp2
          go_ret
          exact ⟨by first | rfl | (simp; done) | (simp [*]; done), by repeat (first | exact Drawn0.refl _ | apply Drawn0.step)⟩
        · rw [if_neg c5] at H
          have c5b0 : (a0 == 9) = false := beq_eq_false_iff_ne.mpr c5
          have c5b1 : (a0 != 9) = true := bne_iff_ne.mpr c5
          by_cases c6 : a0 = 1
          · rw [if_pos c6] at H
            have c6b0 : (a0 == 1) = true := beq_iff_eq.mpr c6
            have c6b1 : (a0 != 1) = false := bne_eq_false_iff_eq.mpr c6
            clear c6
            obtain rfl := Option.some.inj H
            go_enter Tryd.func22, Tryd.ntmps22
            go_wp2
            go_ret
            exact ⟨by first | rfl | (simp; done) | (simp [*]; done), by repeat (first | exact Drawn0.refl _ | apply Drawn0.step)⟩
          · rw [if_neg c6] at H
            have c6b0 : (a0 == 1) = false := beq_eq_false_iff_ne.mpr c6
            have c6b1 : (a0 != 1) = true := bne_iff_ne.mpr c6
            by_cases c7 : a0 = 5
            · rw [if_pos c7] at H
              have c7b0 : (a0 == 5) = true := beq_iff_eq.mpr c7
              have c7b1 : (a0 != 5) = false := bne_eq_false_iff_eq.mpr c7
              clear c7
              obtain rfl := Option.some.inj H
              go_enter Tryd.func22, Tryd.ntmps22
              go_wp2
              go_ret
              exact ⟨by first | rfl | (simp; done) | (simp [*]; done), by repeat (first | exact Drawn0.refl _ | apply Drawn0.step)⟩
            · rw [if_neg c7] at H
              have c7b0 : (a0 == 5) = false := beq_eq_false_iff_ne.mpr c7
              have c7b1 : (a0 != 5) = true := bne_iff_ne.mpr c7
              by_cases c8 : a0 = 12
              · rw [if_pos c8] at H
                have c8b0 : (a0 == 12) = true := beq_iff_eq.mpr c8
                have c8b1 : (a0 != 12) = false := bne_eq_false_iff_eq.mpr c8
                clear c8
                obtain rfl := Option.some.inj H
                go_enter Tryd.func22, Tryd.ntmps22
                go_wp2
                go_ret
                exact ⟨by first | rfl | (simp; done) | (simp [*]; done), by repeat (first | exact Drawn0.refl _ | apply Drawn0.step)⟩
              · rw [if_neg c8] at H
                have c8b0 : (a0 == 12) = false := beq_eq_false_iff_ne.mpr c8
                have c8b1 : (a0 != 12) = true := bne_iff_ne.mpr c8
                by_cases c9 : a0 = 10
                · rw [if_pos c9] at H
                  have c9b0 : (a0 == 10) = true := beq_iff_eq.mpr c9
                  have c9b1 : (a0 != 10) = false := bne_eq_false_iff_eq.mpr c9
                  clear c9
                  obtain rfl := Option.some.inj H
                  go_enter Tryd.func22, Tryd.ntmps22
                  go_wp2
                  go_ret
                  exact ⟨by first | rfl | (simp; done) | (simp [*]; done), by repeat (first | exact Drawn0.refl _ | apply Drawn0.step)⟩
                · rw [if_neg c9] at H
                  have c9b0 : (a0 == 10) = false := beq_eq_false_iff_ne.mpr c9
                  have c9b1 : (a0 != 10) = true := bne_iff_ne.mpr c9
                  by_cases c10 : a0 = 2
                  · rw [if_pos c10] at H
                    have c10b0 : (a0 == 2) = true := beq_iff_eq.mpr c10
                    have c10b1 : (a0 != 2) = false := bne_eq_false_iff_eq.mpr c10
                    clear c10
                    obtain rfl := Option.some.inj H
                    go_enter Tryd.func22, Tryd.ntmps22
                    go_wp2
                    go_ret
                    exact ⟨by first | rfl | (simp; done) | (simp [*]; done), by repeat (first | exact Drawn0.refl _ | apply Drawn0.step)⟩
                  · rw [if_neg c10] at H
                    have c10b0 : (a0 == 2) = false := beq_eq_false_iff_ne.mpr c10
                    have c10b1 : (a0 != 2) = true := bne_iff_ne.mpr c10
                    by_cases c11 : a0 = 6
                    · rw [if_pos c11] at H
                      have c11b0 : (a0 == 6) = true := beq_iff_eq.mpr c11
                      have c11b1 : (a0 != 6) = false := bne_eq_false_iff_eq.mpr c11
                      clear c11
                      obtain rfl := Option.some.inj H
                      go_enter Tryd.func22, Tryd.ntmps22
                      go_wp2
                      go_ret
                      exact ⟨by first | rfl | (simp; done) | (simp [*]; done), by repeat (first | exact Drawn0.refl _ | apply Drawn0.step)⟩
                    · rw [if_neg c11] at H
                      have c11b0 : (a0 == 6) = false := beq_eq_false_iff_ne.mpr c11
                      have c11b1 : (a0 != 6) = true := bne_iff_ne.mpr c11
                      obtain rfl := Option.some.inj H
                      go_enter Tryd.func22, Tryd.ntmps22
                      go_wp2
                      go_ret
                      exact ⟨by first | rfl | (simp; done) | (simp [*]; done), by repeat (first | exact Drawn0.refl _ | apply Drawn0.step)⟩

end Go.Proofs.YtpbodidpcbodaaaDoor.Q

namespace Go.Proofs.YtpbodidpcbodaaaDoor.Hx
open Go.Proofs.YtpbodidpcbodaaaDoor.Bv Go.RowKit Go.Proofs.YtpbodidpcbodaaaDoor.Q Go.Proofs.YtpbodidpcbodaaaDoorW.PrintWords Go.Proofs.YtpbodidpcbodaaaDoorW.PrintLast Go.Proofs.YtpbodidpcbodaaaDoorW.PrintMore Go.Proofs.YtpbodidpcbodaaaDoor.Rg

theorem bitf (a n : Int) (hn : 0 ≤ n) : mezzanineref12_bit.f a n = some (Go.bits .and .u64 (shr .u64 a n) 1 == 1) := by unfold mezzanineref12_bit.f; rw [if_pos hn]
theorem shr_1 {a : Int} (ha : 0 ≤ a ∧ a < 18446744073709551616) : shr .u64 a 1 = a / 2 := by
  obtain ⟨x, rfl⟩ := U_of ha.1 ha.2
  rw [shr_u64, show (2 : Int) = 2 ^ 1 from rfl, U_div_pow]; rfl
theorem shr_12 {a : Int} (ha : 0 ≤ a ∧ a < 18446744073709551616) : shr .u64 a 12 = a / 4096 := by
  obtain ⟨x, rfl⟩ := U_of ha.1 ha.2
  rw [shr_u64, show (4096 : Int) = 2 ^ 12 from rfl, U_div_pow]; rfl
def pG (d4 d5 : Bool) (x : Int) : Int := if d5 = true then Go.bits .or .u64 (if d4 = true then Go.bits .or .u64 x 1024 else x) 4096 else (if d4 = true then Go.bits .or .u64 x 1024 else x)
section
variable (h : Ht) (la lb lc ld : Bool) (lg lt : Int) (k : Nat) (x : Int)
theorem rj4 (b : Bool) : mezzanineref12_Pending.j4 (k + 1) x b (h.x 0) (h.x 1) (h.x 2) (h.x 3) (h.x 4) (h.x 5) (h.x 6) (h.x 7) (h.x 8) (h.x 9) (h.x 10) (h.x 11) (h.x 12) (h.x 13) (h.x 14) (h.x 15) (h.x 16) (h.x 17) (h.x 18) (h.x 19) (h.x 20) (h.x 21) (h.x 22) (h.x 23) (h.x 24) (h.x 25) (h.x 26) (h.x 27) (h.x 28) (h.x 29) (h.x 30) (h.x 31) (h.x 32) (h.x 33) h.v h.wt h.hl (h.x 37) (h.x 38) (h.x 39) (h.x 40) (h.x 41) (h.x 42) (h.x 43) (h.x 44) (h.x 45) (h.x 46) (h.x 47) (h.x 48) (h.x 49) (h.x 50) (h.x 51) (h.x 52) (h.x 53) (h.x 54) (h.x 55) (h.x 56) (h.x 57) (h.x 58) (h.x 59) (h.x 60) (h.x 61) (h.x 62) (h.x 63) (h.x 64) (h.x 65) (h.x 66) (h.x 67) (h.x 68) (h.x 69) (h.x 70) (h.x 71) (h.x 72) (h.x 73) (h.x 74) (h.x 75) (h.x 76) la lb lc ld lg lt = some (pG b (Go.bits .and .u64 lg (h.x 63) != 0) x) := by
  rw [mezzanineref12_Pending.j4]
  by_cases hz : Go.bits .and .u64 lg (h.x 63) = 0
  · rw [hz]; cases b <;> rfl
  · rw [show (Go.bits .and .u64 lg (h.x 63) != 0) = true from bne_iff_ne.2 hz, if_neg hz, if_neg hz]; cases b <;> rfl
theorem rj3 (b1 b2 : Bool) (e1 : mezzanineref12_bit.f (h.x 58) 12 = some b1) (e2 : mezzanineref12_bit.f lg 1 = some b2) : mezzanineref12_Pending.j3 (k + 2) x (h.x 0) (h.x 1) (h.x 2) (h.x 3) (h.x 4) (h.x 5) (h.x 6) (h.x 7) (h.x 8) (h.x 9) (h.x 10) (h.x 11) (h.x 12) (h.x 13) (h.x 14) (h.x 15) (h.x 16) (h.x 17) (h.x 18) (h.x 19) (h.x 20) (h.x 21) (h.x 22) (h.x 23) (h.x 24) (h.x 25) (h.x 26) (h.x 27) (h.x 28) (h.x 29) (h.x 30) (h.x 31) (h.x 32) (h.x 33) h.v h.wt h.hl (h.x 37) (h.x 38) (h.x 39) (h.x 40) (h.x 41) (h.x 42) (h.x 43) (h.x 44) (h.x 45) (h.x 46) (h.x 47) (h.x 48) (h.x 49) (h.x 50) (h.x 51) (h.x 52) (h.x 53) (h.x 54) (h.x 55) (h.x 56) (h.x 57) (h.x 58) (h.x 59) (h.x 60) (h.x 61) (h.x 62) (h.x 63) (h.x 64) (h.x 65) (h.x 66) (h.x 67) (h.x 68) (h.x 69) (h.x 70) (h.x 71) (h.x 72) (h.x 73) (h.x 74) (h.x 75) (h.x 76) la lb lc ld lg lt = some (pG (if b1 = true then b2 else false) (Go.bits .and .u64 lg (h.x 63) != 0) x) := by
  rw [mezzanineref12_Pending.j3, e1, bsm, e2, bsm]
  cases b1
  · rw [if_neg (show ¬ (false = true) by decide), if_neg (show ¬ (false = true) by decide)]; exact rj4 ..
  · rw [if_pos rfl, if_pos rfl]; exact rj4 ..
theorem rj2 (b1 b2 : Bool) (e1 : mezzanineref12_bit.f (h.x 58) 12 = some b1) (e2 : mezzanineref12_bit.f lg 1 = some b2) : mezzanineref12_Pending.j2 (k + 3) x (h.x 0) (h.x 1) (h.x 2) (h.x 3) (h.x 4) (h.x 5) (h.x 6) (h.x 7) (h.x 8) (h.x 9) (h.x 10) (h.x 11) (h.x 12) (h.x 13) (h.x 14) (h.x 15) (h.x 16) (h.x 17) (h.x 18) (h.x 19) (h.x 20) (h.x 21) (h.x 22) (h.x 23) (h.x 24) (h.x 25) (h.x 26) (h.x 27) (h.x 28) (h.x 29) (h.x 30) (h.x 31) (h.x 32) (h.x 33) h.v h.wt h.hl (h.x 37) (h.x 38) (h.x 39) (h.x 40) (h.x 41) (h.x 42) (h.x 43) (h.x 44) (h.x 45) (h.x 46) (h.x 47) (h.x 48) (h.x 49) (h.x 50) (h.x 51) (h.x 52) (h.x 53) (h.x 54) (h.x 55) (h.x 56) (h.x 57) (h.x 58) (h.x 59) (h.x 60) (h.x 61) (h.x 62) (h.x 63) (h.x 64) (h.x 65) (h.x 66) (h.x 67) (h.x 68) (h.x 69) (h.x 70) (h.x 71) (h.x 72) (h.x 73) (h.x 74) (h.x 75) (h.x 76) la lb lc ld lg lt = some (pG (if b1 = true then b2 else false) (Go.bits .and .u64 lg (h.x 63) != 0) (if ld = true then Go.bits .or .u64 x 512 else x)) := by
  rw [mezzanineref12_Pending.j2]
  cases ld
  · rw [if_neg (show ¬ (false = true) by decide), if_neg (show ¬ (false = true) by decide)]; exact rj3 h _ _ _ _ _ _ _ _ b1 b2 e1 e2
  · rw [if_pos rfl, if_pos rfl]; exact rj3 h _ _ _ _ _ _ _ _ b1 b2 e1 e2
theorem rj1 (b1 b2 : Bool) (e1 : mezzanineref12_bit.f (h.x 58) 12 = some b1) (e2 : mezzanineref12_bit.f lg 1 = some b2) : mezzanineref12_Pending.j1 (k + 4) x (h.x 0) (h.x 1) (h.x 2) (h.x 3) (h.x 4) (h.x 5) (h.x 6) (h.x 7) (h.x 8) (h.x 9) (h.x 10) (h.x 11) (h.x 12) (h.x 13) (h.x 14) (h.x 15) (h.x 16) (h.x 17) (h.x 18) (h.x 19) (h.x 20) (h.x 21) (h.x 22) (h.x 23) (h.x 24) (h.x 25) (h.x 26) (h.x 27) (h.x 28) (h.x 29) (h.x 30) (h.x 31) (h.x 32) (h.x 33) h.v h.wt h.hl (h.x 37) (h.x 38) (h.x 39) (h.x 40) (h.x 41) (h.x 42) (h.x 43) (h.x 44) (h.x 45) (h.x 46) (h.x 47) (h.x 48) (h.x 49) (h.x 50) (h.x 51) (h.x 52) (h.x 53) (h.x 54) (h.x 55) (h.x 56) (h.x 57) (h.x 58) (h.x 59) (h.x 60) (h.x 61) (h.x 62) (h.x 63) (h.x 64) (h.x 65) (h.x 66) (h.x 67) (h.x 68) (h.x 69) (h.x 70) (h.x 71) (h.x 72) (h.x 73) (h.x 74) (h.x 75) (h.x 76) la lb lc ld lg lt = some (pG (if b1 = true then b2 else false) (Go.bits .and .u64 lg (h.x 63) != 0) (if ld = true then Go.bits .or .u64 (if lc = true then Go.bits .or .u64 x 2048 else x) 512 else (if lc = true then Go.bits .or .u64 x 2048 else x))) := by
  rw [mezzanineref12_Pending.j1]
  cases lc
  · rw [if_neg (show ¬ (false = true) by decide), if_neg (show ¬ (false = true) by decide)]; exact rj2 h _ _ _ _ _ _ _ _ b1 b2 e1 e2
  · rw [if_pos rfl, if_pos rfl]; exact rj2 h _ _ _ _ _ _ _ _ b1 b2 e1 e2
theorem rj0 (b1 b2 : Bool) (e1 : mezzanineref12_bit.f (h.x 58) 12 = some b1) (e2 : mezzanineref12_bit.f lg 1 = some b2) : ∃ y, mezzanineref12_Pending.j0 (k + 5) x (h.x 0) (h.x 1) (h.x 2) (h.x 3) (h.x 4) (h.x 5) (h.x 6) (h.x 7) (h.x 8) (h.x 9) (h.x 10) (h.x 11) (h.x 12) (h.x 13) (h.x 14) (h.x 15) (h.x 16) (h.x 17) (h.x 18) (h.x 19) (h.x 20) (h.x 21) (h.x 22) (h.x 23) (h.x 24) (h.x 25) (h.x 26) (h.x 27) (h.x 28) (h.x 29) (h.x 30) (h.x 31) (h.x 32) (h.x 33) h.v h.wt h.hl (h.x 37) (h.x 38) (h.x 39) (h.x 40) (h.x 41) (h.x 42) (h.x 43) (h.x 44) (h.x 45) (h.x 46) (h.x 47) (h.x 48) (h.x 49) (h.x 50) (h.x 51) (h.x 52) (h.x 53) (h.x 54) (h.x 55) (h.x 56) (h.x 57) (h.x 58) (h.x 59) (h.x 60) (h.x 61) (h.x 62) (h.x 63) (h.x 64) (h.x 65) (h.x 66) (h.x 67) (h.x 68) (h.x 69) (h.x 70) (h.x 71) (h.x 72) (h.x 73) (h.x 74) (h.x 75) (h.x 76) la lb lc ld lg lt = some (pG (if b1 = true then b2 else false) (Go.bits .and .u64 lg (h.x 63) != 0) (if ld = true then Go.bits .or .u64 (if lc = true then Go.bits .or .u64 y 2048 else y) 512 else (if lc = true then Go.bits .or .u64 y 2048 else y))) ∧ y = (if lb = true then Go.bits .or .u64 x 128 else x) := by
  refine ⟨_, ?_, rfl⟩
  rw [mezzanineref12_Pending.j0]
  cases lb
  · rw [if_neg (show ¬ (false = true) by decide), if_neg (show ¬ (false = true) by decide)]; exact rj1 h _ _ _ _ _ _ _ _ b1 b2 e1 e2
  · rw [if_pos rfl, if_pos rfl]; exact rj1 h _ _ _ _ _ _ _ _ b1 b2 e1 e2
end
theorem rpend_f (h : Ht) (hw : h.wf) (la lb lc ld : Bool) (lg lt : Int) (hg : 0 ≤ lg ∧ lg < 18446744073709551616) : mezzanineref12_Pending.f 5 (h.x 0) (h.x 1) (h.x 2) (h.x 3) (h.x 4) (h.x 5) (h.x 6) (h.x 7) (h.x 8) (h.x 9) (h.x 10) (h.x 11) (h.x 12) (h.x 13) (h.x 14) (h.x 15) (h.x 16) (h.x 17) (h.x 18) (h.x 19) (h.x 20) (h.x 21) (h.x 22) (h.x 23) (h.x 24) (h.x 25) (h.x 26) (h.x 27) (h.x 28) (h.x 29) (h.x 30) (h.x 31) (h.x 32) (h.x 33) h.v h.wt h.hl (h.x 37) (h.x 38) (h.x 39) (h.x 40) (h.x 41) (h.x 42) (h.x 43) (h.x 44) (h.x 45) (h.x 46) (h.x 47) (h.x 48) (h.x 49) (h.x 50) (h.x 51) (h.x 52) (h.x 53) (h.x 54) (h.x 55) (h.x 56) (h.x 57) (h.x 58) (h.x 59) (h.x 60) (h.x 61) (h.x 62) (h.x 63) (h.x 64) (h.x 65) (h.x 66) (h.x 67) (h.x 68) (h.x 69) (h.x 70) (h.x 71) (h.x 72) (h.x 73) (h.x 74) (h.x 75) (h.x 76) la lb lc ld lg lt = some (pendV h la lb lc ld lg lt) := by
  have e1 := bitf (h.x 58) 12 (by decide)
  have e2 := bitf lg 1 (by decide)
  rw [shr_12 (hw.1 58)] at e1
  rw [shr_1 hg] at e2
  have ep : pendV h la lb lc ld lg lt = pG (if (Go.bits .and .u64 (h.x 58 / 4096) 1 == 1) = true then (Go.bits .and .u64 (lg / 2) 1 == 1) else false) (Go.bits .and .u64 lg (h.x 63) != 0) (if ld = true then Go.bits .or .u64 (if lc = true then Go.bits .or .u64 (if lb = true then Go.bits .or .u64 (if la = true then Go.bits .or .u64 (Go.bits .or .u64 (h.x 42) (h.x 61)) 8 else (Go.bits .or .u64 (h.x 42) (h.x 61))) 128 else (if la = true then Go.bits .or .u64 (Go.bits .or .u64 (h.x 42) (h.x 61)) 8 else (Go.bits .or .u64 (h.x 42) (h.x 61)))) 2048 else (if lb = true then Go.bits .or .u64 (if la = true then Go.bits .or .u64 (Go.bits .or .u64 (h.x 42) (h.x 61)) 8 else (Go.bits .or .u64 (h.x 42) (h.x 61))) 128 else (if la = true then Go.bits .or .u64 (Go.bits .or .u64 (h.x 42) (h.x 61)) 8 else (Go.bits .or .u64 (h.x 42) (h.x 61))))) 512 else (if lc = true then Go.bits .or .u64 (if lb = true then Go.bits .or .u64 (if la = true then Go.bits .or .u64 (Go.bits .or .u64 (h.x 42) (h.x 61)) 8 else (Go.bits .or .u64 (h.x 42) (h.x 61))) 128 else (if la = true then Go.bits .or .u64 (Go.bits .or .u64 (h.x 42) (h.x 61)) 8 else (Go.bits .or .u64 (h.x 42) (h.x 61)))) 2048 else (if lb = true then Go.bits .or .u64 (if la = true then Go.bits .or .u64 (Go.bits .or .u64 (h.x 42) (h.x 61)) 8 else (Go.bits .or .u64 (h.x 42) (h.x 61))) 128 else (if la = true then Go.bits .or .u64 (Go.bits .or .u64 (h.x 42) (h.x 61)) 8 else (Go.bits .or .u64 (h.x 42) (h.x 61)))))) := by
    unfold pG; rfl
  unfold mezzanineref12_Pending.f
  cases la
  · rw [if_neg (show ¬ (false = true) by decide)]
    obtain ⟨y, h1, h2⟩ := rj0 h false lb lc ld lg lt 0 (Go.bits .or .u64 (h.x 42) (h.x 61)) _ _ e1 e2
    rw [h1, ep, h2]; rfl
  · rw [if_pos rfl]
    obtain ⟨y, h1, h2⟩ := rj0 h true lb lc ld lg lt 0 (Go.bits .or .u64 (Go.bits .or .u64 (h.x 42) (h.x 61)) 8) _ _ e1 e2
    rw [h1, ep, h2]; rfl

theorem rpend_c (h : Ht) (hw : h.wf) (la lb lc ld : Bool) (lg lt : Int) (hg : 0 ≤ lg ∧ lg < 18446744073709551616) (w : World) : Calls Tryd.prog 18 #[.agg h.cs, .agg #[.bool la, .bool lb, .bool lc, .bool ld, .int .u64 lg, .int .u64 lt]] w fun e w' => e = .returned (.int .u64 (pendV h la lb lc ld lg lt)) ∧ Below w.heap.size w w' := by
  rw [h.cs_lit]
  exact mezzanineref12_Pending.calls 5 (h.x 0) (h.x 1) (h.x 2) (h.x 3) (h.x 4) (h.x 5) (h.x 6) (h.x 7) (h.x 8) (h.x 9) (h.x 10) (h.x 11) (h.x 12) (h.x 13) (h.x 14) (h.x 15) (h.x 16) (h.x 17) (h.x 18) (h.x 19) (h.x 20) (h.x 21) (h.x 22) (h.x 23) (h.x 24) (h.x 25) (h.x 26) (h.x 27) (h.x 28) (h.x 29) (h.x 30) (h.x 31) (h.x 32) (h.x 33) h.v h.wt h.hl (h.x 37) (h.x 38) (h.x 39) (h.x 40) (h.x 41) (h.x 42) (h.x 43) (h.x 44) (h.x 45) (h.x 46) (h.x 47) (h.x 48) (h.x 49) (h.x 50) (h.x 51) (h.x 52) (h.x 53) (h.x 54) (h.x 55) (h.x 56) (h.x 57) (h.x 58) (h.x 59) (h.x 60) (h.x 61) (h.x 62) (h.x 63) (h.x 64) (h.x 65) (h.x 66) (h.x 67) (h.x 68) (h.x 69) (h.x 70) (h.x 71) (h.x 72) (h.x 73) (h.x 74) (h.x 75) (h.x 76) la lb lc ld lg lt _ w (rpend_f h hw la lb lc ld lg lt hg)


set_option maxHeartbeats 16000000 in
set_option maxRecDepth 100000 in
theorem rasks_c (h : Ht) (hw : h.wf) (la lb lc ld : Bool) (lg lt : Int) (hg : 0 ≤ lg ∧ lg < 18446744073709551616) (w : World) : Calls Tryd.prog 10 #[.agg h.cs, .agg #[.bool la, .bool lb, .bool lc, .bool ld, .int .u64 lg, .int .u64 lt]] w fun e w' => e = .returned (.int .u64 (asksV h la lb lc ld lg lt)) ∧ Below w.heap.size w w' := by
  have HP := Lib.hid (rpend_c h hw la lb lc ld lg lt hg)
  unfold asksV
  generalize pendV h la lb lc ld lg lt = pv at *
  clear hw hg
  have hu25 := Tryd.underlying25; have hu27 := Tryd.underlying27
  go_enter Tryd.func10, Tryd.ntmps10
  go_upto_region 1 with (first | ((with_reducible refine gate_dst (N := 2) rfl ?_); refine box_event ?hg (N := 2) ?hd (cs := h.cs) (t := 25) ?hr ?_; (case hd => rfl); (case hg => rfl); (case hr => first | (go_simp; done) | (go_simp; rfl)); intro ga hg w_1 H1 hb; have hB_2 := Lib.hid (below_step (Below.refl w.heap.size w) hb); have G_ga := Lib.hid (show w.heap.size ≤ ga by rw [hg]; exact ((Below.refl w.heap.size w)).size); have K_ga := Lib.hid (show Hb w_1 ga h from H1); clear hg hb H1) | ((with_reducible refine gate_dst (N := 3) rfl ?_); refine box_event ?hg (N := 3) ?hd (cs := #[.bool la, .bool lb, .bool lc, .bool ld, .int .u64 lg, .int .u64 lt]) (t := 27) ?hr ?_; (case hd => rfl); (case hg => rfl); (case hr => first | (go_simp; done) | (go_simp; rfl)); intro gt hg w_3 H1 hb; have hB_4 := Lib.hid (below_step hB_2.out hb); have G_gt := Lib.hid (show w.heap.size ≤ gt by rw [hg]; exact (hB_2.out).size); have N_ga_gt := Lib.hid (show ga ≠ gt by rw [hg]; exact Nat.ne_of_lt (K_ga.out.lt)); replace K_ga := Lib.hid (K_ga.out.below hb); have K_gt := Lib.hid (show w_3.heap[gt]? = some (.cells #[.bool la, .bool lb, .bool lc, .bool ld, .int .u64 lg, .int .u64 lt] 27 (0, 0)) from H1); clear hg hb H1 hB_2; clear hu25 hu27))
  refine start_ (n := 7) (S := fun w' => Hb w' ga h ∧ w'.heap[gt]? = some (.cells #[.bool la, .bool lb, .bool lc, .bool ld, .int .u64 lg, .int .u64 lt] 27 (0, 0)) ∧ w'.cell? ⟨ga, 41, none⟩ = some (.int .u64 (h.x 41))) (ds := []) #[false, false, false, false, false, false, false] (by kernel_rfl) rfl rfl ⟨K_ga.out.drew, blk_drew K_gt.out, (K_ga.out.drew.u 41 rfl)⟩ (fun hHeld => ?_)
  replace K_ga := Lib.hid (K_ga.out.drew)
  replace K_gt := Lib.hid (blk_drew K_gt.out)
  have hB_6 := Lib.hid (below_drew1 hB_4.out)
  clear hB_4
  generalize World.drew w_3 = w_5 at K_ga K_gt hB_6 hHeld ⊢
  refine pure_ (i := 3) (N := some 8) (v := ?_) (a' := ?_) #[false, false, false, true, false, false, false] rfl rfl (by kernel_rfl) (fun _ _ _ h => h) (Or.inl ⟨by rfl, ?_⟩) ?_ ?_
  rotate_left
  · intro w'
    go_simp
    with_reducible rfl
  rotate_left
  · simp only [Act.put, List.setIfInBounds_toArray, List.set_cons_zero, List.set_cons_succ, i64_w, i32_w]
    rfl
  refine take_ (i := 0) (N := some 5) (v := .agg h.cs) (a' := ?_) #[true, false, false, true, false, false, false] rfl rfl (by kernel_rfl) (fun _ _ _ h => h) (Or.inl ⟨by rfl, ?_⟩) hHeld ?_ ?_
  · rintro w' ⟨s0, s1, s2⟩; exact exec_load_hart rfl rfl s0
  rotate_left
  · simp only [Act.put, List.setIfInBounds_toArray, List.set_cons_zero, List.set_cons_succ, i64_w, i32_w]
    rfl
  refine take_ (i := 1) (N := some 6) (v := .agg #[.bool la, .bool lb, .bool lc, .bool ld, .int .u64 lg, .int .u64 lt]) (a' := ?_) #[true, true, false, true, false, false, false] rfl rfl (by kernel_rfl) (fun _ _ _ h => h) (Or.inl ⟨by rfl, ?_⟩) hHeld ?_ ?_
  · rintro w' ⟨s0, s1, s2⟩; exact exec_load_blk rfl rfl s1 Tryd.underlying27 rfl (by kernel_rfl)
  rotate_left
  · simp only [Act.put, List.setIfInBounds_toArray, List.set_cons_zero, List.set_cons_succ, i64_w, i32_w]
    rfl
  refine take_ (i := 4) (N := some 9) (v := ?_) (a' := ?_) #[true, true, false, true, true, false, false] rfl rfl (by kernel_rfl) (fun _ _ _ h => h) (Or.inl ⟨by rfl, ?_⟩) hHeld ?_ ?_
  rotate_left
  · rintro w' ⟨s0, s1, s2⟩
    go_simp
    with_reducible rfl
  rotate_left
  · simp only [Act.put, List.setIfInBounds_toArray, List.set_cons_zero, List.set_cons_succ, i64_w, i32_w]
    rfl
  have HH := Lib.hid hHeld
  clear hHeld
  refine one_ (i := 2) (N := some 7) #[true, true, true, true, true, false, false] rfl rfl (by kernel_rfl) (by decide) (fun K hK => ?_)
  refine goes_ Tryd.func18 (by kernel_rfl) rfl #[.agg h.cs, .agg #[.bool la, .bool lb, .bool lc, .bool ld, .int .u64 lg, .int .u64 lt]] (by rfl) rfl rfl (by simp only [List.map_toArray, List.map_cons, List.map_nil]; rfl) ?_
  with_reducible refine (HP.out _).mono ?_
  rintro e_ w_7 ⟨rfl, hb⟩
  refine ⟨_, rfl, ?_⟩
  have s_0 := Hb.below (HH.out.1) hb
  have s_1 := blk_below (HH.out.2.1) hb
  have s_2 := (Hb.u s_0 41 rfl)
  replace K_ga := Lib.hid (K_ga.out.below hb)
  replace K_gt := Lib.hid (blk_below K_gt.out hb)
  have hB_8 := Lib.hid (below_step hB_6.out hb)
  clear HH hb hB_6
  refine hK.out _ _ ⟨s_0, s_1, s_2⟩ (fun hHeld => ?_)
  have HH := Lib.hid hHeld
  clear hHeld s_0 s_1 s_2
  clear hK K
  refine norm_ (a' := ?_) ?_ ?_
  rotate_left
  · show Act.put _ (some 7) _ = _
    simp only [Act.put, List.setIfInBounds_toArray, List.set_cons_zero, List.set_cons_succ, i64_w, i32_w]
    rfl
  refine pure_ (i := 5) (N := some 10) (v := ?_) (a' := ?_) #[true, true, true, true, true, true, false] rfl rfl (by kernel_rfl) (fun _ _ _ h => h) (Or.inl ⟨by rfl, ?_⟩) ?_ ?_
  rotate_left
  · intro w'
    go_simp
    with_reducible rfl
  rotate_left
  · simp only [Act.put, List.setIfInBounds_toArray, List.set_cons_zero, List.set_cons_succ, i64_w, i32_w]
    rfl
  refine pure_ (i := 6) (N := some 4) (v := ?_) (a' := ?_) #[true, true, true, true, true, true, true] rfl rfl (by kernel_rfl) (fun _ _ _ h => h) (Or.inl ⟨by rfl, ?_⟩) ?_ ?_
  rotate_left
  · intro w'
    go_simp
    with_reducible rfl
  rotate_left
  · simp only [Act.put, List.setIfInBounds_toArray, List.set_cons_zero, List.set_cons_succ, i64_w, i32_w]
    rfl
  refine done_ (by kernel_rfl) ?_
  try clear HH
  go_wp2
  go_ret
  exact ⟨rfl, hB_8.out⟩
set_option maxHeartbeats 16000000 in
set_option maxRecDepth 100000 in
theorem rwakes_c (h : Ht) (hw : h.wf) (la lb lc ld : Bool) (lg lt : Int) (hg : 0 ≤ lg ∧ lg < 18446744073709551616) (w : World) : Calls Tryd.prog 13 #[.agg h.cs, .agg #[.bool la, .bool lb, .bool lc, .bool ld, .int .u64 lg, .int .u64 lt]] w fun e w' => e = .returned (.bool (asksV h la lb lc ld lg lt != 0)) ∧ Below w.heap.size w w' := by
  have HP := Lib.hid (rasks_c h hw la lb lc ld lg lt hg)
  generalize asksV h la lb lc ld lg lt = av at *
  clear hw hg
  have hu25 := Tryd.underlying25; have hu27 := Tryd.underlying27
  go_enter Tryd.func13, Tryd.ntmps13
  go_upto_region 1 with (first | ((with_reducible refine gate_dst (N := 2) rfl ?_); refine box_event ?hg (N := 2) ?hd (cs := h.cs) (t := 25) ?hr ?_; (case hd => rfl); (case hg => rfl); (case hr => first | (go_simp; done) | (go_simp; rfl)); intro ga hg w_1 H1 hb; have hB_2 := Lib.hid (below_step (Below.refl w.heap.size w) hb); have G_ga := Lib.hid (show w.heap.size ≤ ga by rw [hg]; exact ((Below.refl w.heap.size w)).size); have K_ga := Lib.hid (show Hb w_1 ga h from H1); clear hg hb H1) | ((with_reducible refine gate_dst (N := 3) rfl ?_); refine box_event ?hg (N := 3) ?hd (cs := #[.bool la, .bool lb, .bool lc, .bool ld, .int .u64 lg, .int .u64 lt]) (t := 27) ?hr ?_; (case hd => rfl); (case hg => rfl); (case hr => first | (go_simp; done) | (go_simp; rfl)); intro gt hg w_3 H1 hb; have hB_4 := Lib.hid (below_step hB_2.out hb); have G_gt := Lib.hid (show w.heap.size ≤ gt by rw [hg]; exact (hB_2.out).size); have N_ga_gt := Lib.hid (show ga ≠ gt by rw [hg]; exact Nat.ne_of_lt (K_ga.out.lt)); replace K_ga := Lib.hid (K_ga.out.below hb); have K_gt := Lib.hid (show w_3.heap[gt]? = some (.cells #[.bool la, .bool lb, .bool lc, .bool ld, .int .u64 lg, .int .u64 lt] 27 (0, 0)) from H1); clear hg hb H1 hB_2; clear hu25 hu27))
  go_wp2_with (first | ((with_reducible refine gate_dst (N := 5) rfl ?_); (first | (refine gate_guard (by kernel_rfl) ?_) | skip); refine Kd.event_run rfl (v := .agg (h).cs) (w1 := w_3) ?hb ?_; (case hb => exact exec_load_hart rfl rfl K_ga.out)) | ((with_reducible refine gate_dst (N := 6) rfl ?_); (first | (refine gate_guard (by kernel_rfl) ?_) | skip); refine Kd.event_run rfl (v := .agg #[.bool la, .bool lb, .bool lc, .bool ld, .int .u64 lg, .int .u64 lt]) (w1 := w_3) ?hb ?_; (case hb => exact exec_load_blk rfl rfl K_gt.out Tryd.underlying27 rfl (by kernel_rfl))))
  refine (HP.out _).mono ?_
  rintro e_5 w_6 ⟨rfl, hb⟩
  have hB_7 := Lib.hid (below_step hB_4.out hb)
  replace K_ga := Lib.hid (K_ga.out.below hb)
  replace K_gt := Lib.hid (blk_below K_gt.out hb)
  clear hb hB_4
  go_wp2
  go_ret
  exact ⟨rfl, hB_7.out⟩
theorem rbit_f (a : Int) (ha : 0 ≤ a ∧ a < 18446744073709551616) (n : Nat) (hn : n < 64) : mezzanineref13_bit.f a (n : Int) = some (g a n) := by
  unfold mezzanineref13_bit.f
  rw [show IntKind.u64.wrap (n : Int) = (n : Int) by rw [IntKind.wrap_u64]; omega, if_pos (by omega)]
  rw [← onI_bit a ha n hn]; rfl
theorem rbit_c (a : Int) (ha : 0 ≤ a ∧ a < 18446744073709551616) (n : Nat) (hn : n < 64) (w : World) : Calls Tryd.prog 19 #[.int .u64 a, .int .i64 (n : Int)] w fun e w' => e = .returned (.bool (g a n)) ∧ Below w.heap.size w w' := (mezzanineref13_bit.calls a n _ w (rbit_f a ha n hn)).mono (fun e w' h => ⟨h.1, by obtain ⟨n, rfl⟩ := h.2; exact pw_below_drewN (Below.refl _ _) n⟩)
theorem rbit_o (a n : Int) (hn : 0 ≤ n ∧ n < 64) (w : World) : Calls Tryd.prog 19 #[.int .u64 a, .int .i64 n] w fun e w' => e = .returned (.bool (onI a n)) ∧ Below w.heap.size w w' :=
  (mezzanineref13_bit.calls a n _ w (by unfold mezzanineref13_bit.f; rw [show IntKind.u64.wrap n = n by rw [IntKind.wrap_u64]; omega, if_pos hn.1]; rfl)).mono (fun e w' h => ⟨h.1, by obtain ⟨n, rfl⟩ := h.2; exact pw_below_drewN (Below.refl _ _) n⟩)
def rankN (n : Nat) : Int := (mezzanineref13_Rank.f (n : Int)).getD 0
theorem rank_f (n : Nat) : mezzanineref13_Rank.f (n : Int) = some (rankN n) := by
  have : ∃ z, mezzanineref13_Rank.f (n : Int) = some z := by unfold mezzanineref13_Rank.f; repeat' split
                                                             all_goals exact ⟨_, rfl⟩
  obtain ⟨z, hz⟩ := this
  unfold rankN; rw [hz]; rfl
theorem rank_c (n : Nat) (w : World) : Calls Tryd.prog 22 #[.int .i64 (n : Int)] w fun e w' => e = .returned (.int .i64 (rankN n)) ∧ Below w.heap.size w w' := (mezzanineref13_Rank.calls n _ w (rank_f n)).mono (fun e w' h => ⟨h.1, by obtain ⟨n, rfl⟩ := h.2; exact pw_below_drewN (Below.refl _ _) n⟩)
/-- An interrupt's level. -/
def rlev (h : Ht) (n : Nat) : Nat := if g (h.x 40) n = true then (if g (h.x 60) n = true then 2 else 1) else 0

set_option maxHeartbeats 16000000 in
set_option maxRecDepth 100000 in
theorem rlevel_c (h : Ht) (hw : h.wf) (n : Nat) (hn : n < 64) (w : World) : Calls Tryd.prog 20 #[.agg h.cs, .int .i64 (n : Int)] w fun e w' => e = .returned (.int .i64 (rlev h n : Nat)) ∧ Below w.heap.size w w' := by
  have h1 := rbit_c (h.x 40) (hw.1 40) n hn
  have h2 := rbit_c (h.x 60) (hw.1 60) n hn
  unfold rlev
  generalize g (h.x 40) n = b4 at *
  generalize g (h.x 60) n = b6 at *
  clear hw
  have H1 := Lib.hid h1; have H2 := Lib.hid h2
  clear h1 h2
  have hu25 := Tryd.underlying25
  cases b4
  · skip
    go_enter Tryd.func20, Tryd.ntmps20
    go_upto_region 1 with (first | ((with_reducible refine gate_dst (N := 2) rfl ?_); refine box_event ?hg (N := 2) ?hd (cs := h.cs) (t := 25) ?hr ?_; (case hd => rfl); (case hg => rfl); (case hr => first | (go_simp; done) | (go_simp; rfl)); intro ga hg w_1 H1 hb; have hB_2 := Lib.hid (below_step (Below.refl w.heap.size w) hb); have G_ga := Lib.hid (show w.heap.size ≤ ga by rw [hg]; exact ((Below.refl w.heap.size w)).size); have K_ga := Lib.hid (show Hb w_1 ga h from H1); clear hg hb H1; clear hu25))
    have c_ga_40 := K_ga.out.u 40 rfl; have f_ga_40 := K_ga.out.fr 40
    have c_ga_60 := K_ga.out.u 60 rfl; have f_ga_60 := K_ga.out.fr 60
    go_wp2_with fail
    refine (H1.out _).mono ?_
    rintro e_3 w_4 ⟨rfl, hb⟩
    clear c_ga_40 f_ga_40 c_ga_60 f_ga_60
    have hB_5 := Lib.hid (below_step hB_2.out hb)
    replace K_ga := Lib.hid (K_ga.out.below hb)
    clear hb hB_2
    go_wp2
    go_ret
    exact ⟨rfl, hB_5.out⟩
  · skip
    cases b6
    · skip
      go_enter Tryd.func20, Tryd.ntmps20
      go_upto_region 1 with (first | ((with_reducible refine gate_dst (N := 2) rfl ?_); refine box_event ?hg (N := 2) ?hd (cs := h.cs) (t := 25) ?hr ?_; (case hd => rfl); (case hg => rfl); (case hr => first | (go_simp; done) | (go_simp; rfl)); intro ga hg w_1 H1 hb; have hB_2 := Lib.hid (below_step (Below.refl w.heap.size w) hb); have G_ga := Lib.hid (show w.heap.size ≤ ga by rw [hg]; exact ((Below.refl w.heap.size w)).size); have K_ga := Lib.hid (show Hb w_1 ga h from H1); clear hg hb H1; clear hu25))
      have c_ga_40 := K_ga.out.u 40 rfl; have f_ga_40 := K_ga.out.fr 40
      have c_ga_60 := K_ga.out.u 60 rfl; have f_ga_60 := K_ga.out.fr 60
      go_wp2_with fail
      refine (H1.out _).mono ?_
      rintro e_3 w_4 ⟨rfl, hb⟩
      clear c_ga_40 f_ga_40 c_ga_60 f_ga_60
      have hB_5 := Lib.hid (below_step hB_2.out hb)
      replace K_ga := Lib.hid (K_ga.out.below hb)
      clear hb hB_2
      have c_ga_40 := K_ga.out.u 40 rfl; have f_ga_40 := K_ga.out.fr 40
      have c_ga_60 := K_ga.out.u 60 rfl; have f_ga_60 := K_ga.out.fr 60
      go_wp2_with fail
      refine (H2.out _).mono ?_
      rintro e_6 w_7 ⟨rfl, hb⟩
      clear c_ga_40 f_ga_40 c_ga_60 f_ga_60
      have hB_8 := Lib.hid (below_step hB_5.out hb)
      replace K_ga := Lib.hid (K_ga.out.below hb)
      clear hb hB_5
      go_wp2
      go_ret
      exact ⟨rfl, hB_8.out⟩
    · skip
      go_enter Tryd.func20, Tryd.ntmps20
      go_upto_region 1 with (first | ((with_reducible refine gate_dst (N := 2) rfl ?_); refine box_event ?hg (N := 2) ?hd (cs := h.cs) (t := 25) ?hr ?_; (case hd => rfl); (case hg => rfl); (case hr => first | (go_simp; done) | (go_simp; rfl)); intro ga hg w_1 H1 hb; have hB_2 := Lib.hid (below_step (Below.refl w.heap.size w) hb); have G_ga := Lib.hid (show w.heap.size ≤ ga by rw [hg]; exact ((Below.refl w.heap.size w)).size); have K_ga := Lib.hid (show Hb w_1 ga h from H1); clear hg hb H1; clear hu25))
      have c_ga_40 := K_ga.out.u 40 rfl; have f_ga_40 := K_ga.out.fr 40
      have c_ga_60 := K_ga.out.u 60 rfl; have f_ga_60 := K_ga.out.fr 60
      go_wp2_with fail
      refine (H1.out _).mono ?_
      rintro e_3 w_4 ⟨rfl, hb⟩
      clear c_ga_40 f_ga_40 c_ga_60 f_ga_60
      have hB_5 := Lib.hid (below_step hB_2.out hb)
      replace K_ga := Lib.hid (K_ga.out.below hb)
      clear hb hB_2
      have c_ga_40 := K_ga.out.u 40 rfl; have f_ga_40 := K_ga.out.fr 40
      have c_ga_60 := K_ga.out.u 60 rfl; have f_ga_60 := K_ga.out.fr 60
      go_wp2_with fail
      refine (H2.out _).mono ?_
      rintro e_6 w_7 ⟨rfl, hb⟩
      clear c_ga_40 f_ga_40 c_ga_60 f_ga_60
      have hB_8 := Lib.hid (below_step hB_5.out hb)
      replace K_ga := Lib.hid (K_ga.out.below hb)
      clear hb hB_5
      go_wp2
      go_ret
      exact ⟨rfl, hB_8.out⟩
set_option maxHeartbeats 16000000 in
set_option maxRecDepth 100000 in
theorem ropen_c (h : Ht) (L : Nat) (hL : L < 3) (w : World) : Calls Tryd.prog 21 #[.agg h.cs, .int .i64 (L : Int)] w fun e w' => e = .returned (.bool (openV h L)) ∧ Below w.heap.size w w' := by
  have H3 := Lib.hid (rbit_o (h.x 38) 3 (by decide))
  have H1 := Lib.hid (rbit_o (h.x 38) 1 (by decide))
  have H6 := Lib.hid (rbit_o (h.x 68) 1 (by decide))
  have hu25 := Tryd.underlying25
  rcases (by omega : L = 0 ∨ L = 1 ∨ L = 2) with rfl | rfl | rfl
  · by_cases hp : h.x 33 = 3
    · skip
      have ho : openV h 0 = onI (h.x 38) 3 := by show (if h.x 33 = 3 then onI (h.x 38) 3 else true) = _; simp [hp]
      rw [ho]
      clear ho
      go_enter Tryd.func21, Tryd.ntmps21
      go_upto_region 1 with (first | ((with_reducible refine gate_dst (N := 2) rfl ?_); refine box_event ?hg (N := 2) ?hd (cs := h.cs) (t := 25) ?hr ?_; (case hd => rfl); (case hg => rfl); (case hr => first | (go_simp; done) | (go_simp; rfl)); intro ga hg w_1 H1 hb; have hB_2 := Lib.hid (below_step (Below.refl w.heap.size w) hb); have G_ga := Lib.hid (show w.heap.size ≤ ga by rw [hg]; exact ((Below.refl w.heap.size w)).size); have K_ga := Lib.hid (show Hb w_1 ga h from H1); clear hg hb H1; clear hu25))
      have c_ga_33 := K_ga.out.p; have f_ga_33 := K_ga.out.fr 33
      have c_ga_34 := K_ga.out.cv; have f_ga_34 := K_ga.out.fr 34
      have c_ga_38 := K_ga.out.u 38 rfl; have f_ga_38 := K_ga.out.fr 38
      have c_ga_68 := K_ga.out.u 68 rfl; have f_ga_68 := K_ga.out.fr 68
      have e3 : (h.x 33 != 3) = false := (by rw [hp]; rfl); have e4 : (h.x 33 == 3) = true := (by rw [hp]; rfl)
      go_wp2_with fail
      refine (H3.out _).mono ?_
      rintro e_3 w_4 ⟨rfl, hb⟩
      clear c_ga_33 f_ga_33 c_ga_34 f_ga_34 c_ga_38 f_ga_38 c_ga_68 f_ga_68
      have hB_5 := Lib.hid (below_step hB_2.out hb)
      replace K_ga := Lib.hid (K_ga.out.below hb)
      clear hb hB_2
      go_wp2
      go_ret
      exact ⟨rfl, hB_5.out⟩
    · skip
      have ho : openV h 0 = true := by show (if h.x 33 = 3 then onI (h.x 38) 3 else true) = _; simp [hp]
      rw [ho]
      clear ho
      go_enter Tryd.func21, Tryd.ntmps21
      go_upto_region 1 with (first | ((with_reducible refine gate_dst (N := 2) rfl ?_); refine box_event ?hg (N := 2) ?hd (cs := h.cs) (t := 25) ?hr ?_; (case hd => rfl); (case hg => rfl); (case hr => first | (go_simp; done) | (go_simp; rfl)); intro ga hg w_1 H1 hb; have hB_2 := Lib.hid (below_step (Below.refl w.heap.size w) hb); have G_ga := Lib.hid (show w.heap.size ≤ ga by rw [hg]; exact ((Below.refl w.heap.size w)).size); have K_ga := Lib.hid (show Hb w_1 ga h from H1); clear hg hb H1; clear hu25))
      have c_ga_33 := K_ga.out.p; have f_ga_33 := K_ga.out.fr 33
      have c_ga_34 := K_ga.out.cv; have f_ga_34 := K_ga.out.fr 34
      have c_ga_38 := K_ga.out.u 38 rfl; have f_ga_38 := K_ga.out.fr 38
      have c_ga_68 := K_ga.out.u 68 rfl; have f_ga_68 := K_ga.out.fr 68
      have e3 : (h.x 33 != 3) = true := bne_iff_ne.2 hp; have e4 : (h.x 33 == 3) = false := beq_eq_false_iff_ne.2 hp
      go_wp2
      go_ret
      exact ⟨rfl, hB_2.out⟩
  · by_cases hp : h.x 33 = 3
    · skip
      have ho : openV h 1 = false := by show (if h.x 33 = 3 then false else if h.v = true then true else if h.x 33 = 0 then true else onI (h.x 38) 1) = _; simp [hp]
      rw [ho]
      clear ho
      go_enter Tryd.func21, Tryd.ntmps21
      go_upto_region 1 with (first | ((with_reducible refine gate_dst (N := 2) rfl ?_); refine box_event ?hg (N := 2) ?hd (cs := h.cs) (t := 25) ?hr ?_; (case hd => rfl); (case hg => rfl); (case hr => first | (go_simp; done) | (go_simp; rfl)); intro ga hg w_1 H1 hb; have hB_2 := Lib.hid (below_step (Below.refl w.heap.size w) hb); have G_ga := Lib.hid (show w.heap.size ≤ ga by rw [hg]; exact ((Below.refl w.heap.size w)).size); have K_ga := Lib.hid (show Hb w_1 ga h from H1); clear hg hb H1; clear hu25))
      have c_ga_33 := K_ga.out.p; have f_ga_33 := K_ga.out.fr 33
      have c_ga_34 := K_ga.out.cv; have f_ga_34 := K_ga.out.fr 34
      have c_ga_38 := K_ga.out.u 38 rfl; have f_ga_38 := K_ga.out.fr 38
      have c_ga_68 := K_ga.out.u 68 rfl; have f_ga_68 := K_ga.out.fr 68
      have e3 : (h.x 33 != 3) = false := (by rw [hp]; rfl); have e4 : (h.x 33 == 3) = true := (by rw [hp]; rfl)
      go_wp2
      go_ret
      exact ⟨rfl, hB_2.out⟩
    · rcases (Bool.eq_false_or_eq_true h.v) with hv | hv
      · skip
        have ho : openV h 1 = true := by show (if h.x 33 = 3 then false else if h.v = true then true else if h.x 33 = 0 then true else onI (h.x 38) 1) = _; simp [hp, hv]
        rw [ho]
        clear ho
        go_enter Tryd.func21, Tryd.ntmps21
        go_upto_region 1 with (first | ((with_reducible refine gate_dst (N := 2) rfl ?_); refine box_event ?hg (N := 2) ?hd (cs := h.cs) (t := 25) ?hr ?_; (case hd => rfl); (case hg => rfl); (case hr => first | (go_simp; done) | (go_simp; rfl)); intro ga hg w_1 H1 hb; have hB_2 := Lib.hid (below_step (Below.refl w.heap.size w) hb); have G_ga := Lib.hid (show w.heap.size ≤ ga by rw [hg]; exact ((Below.refl w.heap.size w)).size); have K_ga := Lib.hid (show Hb w_1 ga h from H1); clear hg hb H1; clear hu25))
        have c_ga_33 := K_ga.out.p; have f_ga_33 := K_ga.out.fr 33
        have c_ga_34 := K_ga.out.cv; have f_ga_34 := K_ga.out.fr 34
        have c_ga_38 := K_ga.out.u 38 rfl; have f_ga_38 := K_ga.out.fr 38
        have c_ga_68 := K_ga.out.u 68 rfl; have f_ga_68 := K_ga.out.fr 68
        have e3 : (h.x 33 != 3) = true := bne_iff_ne.2 hp; have e4 : (h.x 33 == 3) = false := beq_eq_false_iff_ne.2 hp
        rw [hv] at c_ga_34
        go_wp2
        go_ret
        exact ⟨rfl, hB_2.out⟩
      · skip
        by_cases h0 : h.x 33 = 0
        · skip
          have ho : openV h 1 = true := by show (if h.x 33 = 3 then false else if h.v = true then true else if h.x 33 = 0 then true else onI (h.x 38) 1) = _; simp [h0, hp, hv]
          rw [ho]
          clear ho
          go_enter Tryd.func21, Tryd.ntmps21
          go_upto_region 1 with (first | ((with_reducible refine gate_dst (N := 2) rfl ?_); refine box_event ?hg (N := 2) ?hd (cs := h.cs) (t := 25) ?hr ?_; (case hd => rfl); (case hg => rfl); (case hr => first | (go_simp; done) | (go_simp; rfl)); intro ga hg w_1 H1 hb; have hB_2 := Lib.hid (below_step (Below.refl w.heap.size w) hb); have G_ga := Lib.hid (show w.heap.size ≤ ga by rw [hg]; exact ((Below.refl w.heap.size w)).size); have K_ga := Lib.hid (show Hb w_1 ga h from H1); clear hg hb H1; clear hu25))
          have c_ga_33 := K_ga.out.p; have f_ga_33 := K_ga.out.fr 33
          have c_ga_34 := K_ga.out.cv; have f_ga_34 := K_ga.out.fr 34
          have c_ga_38 := K_ga.out.u 38 rfl; have f_ga_38 := K_ga.out.fr 38
          have c_ga_68 := K_ga.out.u 68 rfl; have f_ga_68 := K_ga.out.fr 68
          have e0 : (h.x 33 == 0) = true := (by rw [h0]; rfl)
          have e3 : (h.x 33 != 3) = true := bne_iff_ne.2 hp; have e4 : (h.x 33 == 3) = false := beq_eq_false_iff_ne.2 hp
          rw [hv] at c_ga_34
          go_wp2
          go_ret
          exact ⟨rfl, hB_2.out⟩
        · skip
          have ho : openV h 1 = onI (h.x 38) 1 := by show (if h.x 33 = 3 then false else if h.v = true then true else if h.x 33 = 0 then true else onI (h.x 38) 1) = _; simp [hp, hv, h0]
          rw [ho]
          clear ho
          go_enter Tryd.func21, Tryd.ntmps21
          go_upto_region 1 with (first | ((with_reducible refine gate_dst (N := 2) rfl ?_); refine box_event ?hg (N := 2) ?hd (cs := h.cs) (t := 25) ?hr ?_; (case hd => rfl); (case hg => rfl); (case hr => first | (go_simp; done) | (go_simp; rfl)); intro ga hg w_1 H1 hb; have hB_2 := Lib.hid (below_step (Below.refl w.heap.size w) hb); have G_ga := Lib.hid (show w.heap.size ≤ ga by rw [hg]; exact ((Below.refl w.heap.size w)).size); have K_ga := Lib.hid (show Hb w_1 ga h from H1); clear hg hb H1; clear hu25))
          have c_ga_33 := K_ga.out.p; have f_ga_33 := K_ga.out.fr 33
          have c_ga_34 := K_ga.out.cv; have f_ga_34 := K_ga.out.fr 34
          have c_ga_38 := K_ga.out.u 38 rfl; have f_ga_38 := K_ga.out.fr 38
          have c_ga_68 := K_ga.out.u 68 rfl; have f_ga_68 := K_ga.out.fr 68
          have e3 : (h.x 33 != 3) = true := bne_iff_ne.2 hp; have e4 : (h.x 33 == 3) = false := beq_eq_false_iff_ne.2 hp
          rw [hv] at c_ga_34
          have e0 : (h.x 33 == 0) = false := beq_eq_false_iff_ne.2 h0
          go_wp2_with fail
          refine (H1.out _).mono ?_
          rintro e_3 w_4 ⟨rfl, hb⟩
          clear c_ga_33 f_ga_33 c_ga_34 f_ga_34 c_ga_38 f_ga_38 c_ga_68 f_ga_68
          have hB_5 := Lib.hid (below_step hB_2.out hb)
          replace K_ga := Lib.hid (K_ga.out.below hb)
          clear hb hB_2
          go_wp2
          go_ret
          exact ⟨rfl, hB_5.out⟩
  · by_cases hp : h.x 33 = 3
    · skip
      have ho : openV h 2 = false := by show (if h.x 33 = 3 then false else if h.v = true then (if h.x 33 = 0 then true else onI (h.x 68) 1) else false) = _; simp [hp]
      rw [ho]
      clear ho
      go_enter Tryd.func21, Tryd.ntmps21
      go_upto_region 1 with (first | ((with_reducible refine gate_dst (N := 2) rfl ?_); refine box_event ?hg (N := 2) ?hd (cs := h.cs) (t := 25) ?hr ?_; (case hd => rfl); (case hg => rfl); (case hr => first | (go_simp; done) | (go_simp; rfl)); intro ga hg w_1 H1 hb; have hB_2 := Lib.hid (below_step (Below.refl w.heap.size w) hb); have G_ga := Lib.hid (show w.heap.size ≤ ga by rw [hg]; exact ((Below.refl w.heap.size w)).size); have K_ga := Lib.hid (show Hb w_1 ga h from H1); clear hg hb H1; clear hu25))
      have c_ga_33 := K_ga.out.p; have f_ga_33 := K_ga.out.fr 33
      have c_ga_34 := K_ga.out.cv; have f_ga_34 := K_ga.out.fr 34
      have c_ga_38 := K_ga.out.u 38 rfl; have f_ga_38 := K_ga.out.fr 38
      have c_ga_68 := K_ga.out.u 68 rfl; have f_ga_68 := K_ga.out.fr 68
      have e3 : (h.x 33 != 3) = false := (by rw [hp]; rfl); have e4 : (h.x 33 == 3) = true := (by rw [hp]; rfl)
      go_wp2
      go_ret
      exact ⟨rfl, hB_2.out⟩
    · rcases (Bool.eq_false_or_eq_true h.v) with hv | hv
      · skip
        by_cases h0 : h.x 33 = 0
        · skip
          have ho : openV h 2 = true := by show (if h.x 33 = 3 then false else if h.v = true then (if h.x 33 = 0 then true else onI (h.x 68) 1) else false) = _; simp [h0, hp, hv]
          rw [ho]
          clear ho
          go_enter Tryd.func21, Tryd.ntmps21
          go_upto_region 1 with (first | ((with_reducible refine gate_dst (N := 2) rfl ?_); refine box_event ?hg (N := 2) ?hd (cs := h.cs) (t := 25) ?hr ?_; (case hd => rfl); (case hg => rfl); (case hr => first | (go_simp; done) | (go_simp; rfl)); intro ga hg w_1 H1 hb; have hB_2 := Lib.hid (below_step (Below.refl w.heap.size w) hb); have G_ga := Lib.hid (show w.heap.size ≤ ga by rw [hg]; exact ((Below.refl w.heap.size w)).size); have K_ga := Lib.hid (show Hb w_1 ga h from H1); clear hg hb H1; clear hu25))
          have c_ga_33 := K_ga.out.p; have f_ga_33 := K_ga.out.fr 33
          have c_ga_34 := K_ga.out.cv; have f_ga_34 := K_ga.out.fr 34
          have c_ga_38 := K_ga.out.u 38 rfl; have f_ga_38 := K_ga.out.fr 38
          have c_ga_68 := K_ga.out.u 68 rfl; have f_ga_68 := K_ga.out.fr 68
          have e0 : (h.x 33 == 0) = true := (by rw [h0]; rfl)
          have e3 : (h.x 33 != 3) = true := bne_iff_ne.2 hp; have e4 : (h.x 33 == 3) = false := beq_eq_false_iff_ne.2 hp
          rw [hv] at c_ga_34
          go_wp2
          go_ret
          exact ⟨rfl, hB_2.out⟩
        · skip
          have ho : openV h 2 = onI (h.x 68) 1 := by show (if h.x 33 = 3 then false else if h.v = true then (if h.x 33 = 0 then true else onI (h.x 68) 1) else false) = _; simp [hp, hv, h0]
          rw [ho]
          clear ho
          go_enter Tryd.func21, Tryd.ntmps21
          go_upto_region 1 with (first | ((with_reducible refine gate_dst (N := 2) rfl ?_); refine box_event ?hg (N := 2) ?hd (cs := h.cs) (t := 25) ?hr ?_; (case hd => rfl); (case hg => rfl); (case hr => first | (go_simp; done) | (go_simp; rfl)); intro ga hg w_1 H1 hb; have hB_2 := Lib.hid (below_step (Below.refl w.heap.size w) hb); have G_ga := Lib.hid (show w.heap.size ≤ ga by rw [hg]; exact ((Below.refl w.heap.size w)).size); have K_ga := Lib.hid (show Hb w_1 ga h from H1); clear hg hb H1; clear hu25))
          have c_ga_33 := K_ga.out.p; have f_ga_33 := K_ga.out.fr 33
          have c_ga_34 := K_ga.out.cv; have f_ga_34 := K_ga.out.fr 34
          have c_ga_38 := K_ga.out.u 38 rfl; have f_ga_38 := K_ga.out.fr 38
          have c_ga_68 := K_ga.out.u 68 rfl; have f_ga_68 := K_ga.out.fr 68
          have e3 : (h.x 33 != 3) = true := bne_iff_ne.2 hp; have e4 : (h.x 33 == 3) = false := beq_eq_false_iff_ne.2 hp
          rw [hv] at c_ga_34
          have e0 : (h.x 33 == 0) = false := beq_eq_false_iff_ne.2 h0
          go_wp2_with fail
          refine (H6.out _).mono ?_
          rintro e_3 w_4 ⟨rfl, hb⟩
          clear c_ga_33 f_ga_33 c_ga_34 f_ga_34 c_ga_38 f_ga_38 c_ga_68 f_ga_68
          have hB_5 := Lib.hid (below_step hB_2.out hb)
          replace K_ga := Lib.hid (K_ga.out.below hb)
          clear hb hB_2
          go_wp2
          go_ret
          exact ⟨rfl, hB_5.out⟩
      · skip
        have ho : openV h 2 = false := by show (if h.x 33 = 3 then false else if h.v = true then (if h.x 33 = 0 then true else onI (h.x 68) 1) else false) = _; simp [hp, hv]
        rw [ho]
        clear ho
        go_enter Tryd.func21, Tryd.ntmps21
        go_upto_region 1 with (first | ((with_reducible refine gate_dst (N := 2) rfl ?_); refine box_event ?hg (N := 2) ?hd (cs := h.cs) (t := 25) ?hr ?_; (case hd => rfl); (case hg => rfl); (case hr => first | (go_simp; done) | (go_simp; rfl)); intro ga hg w_1 H1 hb; have hB_2 := Lib.hid (below_step (Below.refl w.heap.size w) hb); have G_ga := Lib.hid (show w.heap.size ≤ ga by rw [hg]; exact ((Below.refl w.heap.size w)).size); have K_ga := Lib.hid (show Hb w_1 ga h from H1); clear hg hb H1; clear hu25))
        have c_ga_33 := K_ga.out.p; have f_ga_33 := K_ga.out.fr 33
        have c_ga_34 := K_ga.out.cv; have f_ga_34 := K_ga.out.fr 34
        have c_ga_38 := K_ga.out.u 38 rfl; have f_ga_38 := K_ga.out.fr 38
        have c_ga_68 := K_ga.out.u 68 rfl; have f_ga_68 := K_ga.out.fr 68
        have e3 : (h.x 33 != 3) = true := bne_iff_ne.2 hp; have e4 : (h.x 33 == 3) = false := beq_eq_false_iff_ne.2 hp
        rw [hv] at c_ga_34
        go_wp2
        go_ret
        exact ⟨rfl, hB_2.out⟩
end Go.Proofs.YtpbodidpcbodaaaDoor.Hx

namespace Go.Proofs.YtpbodidpcbodaaaDoor.Hx
open Go.Proofs.YtpbodidpcbodaaaDoor.Bv Go.RowKit Go.Proofs.YtpbodidpcbodaaaDoor.Q Go.Proofs.YtpbodidpcbodaaaDoorW.PrintWords Go.Proofs.YtpbodidpcbodaaaDoorW.PrintLast Go.Proofs.YtpbodidpcbodaaaDoorW.PrintMore Go.Proofs.YtpbodidpcbodaaaDoor.Rg

/-- The best of the first m numbers that p holds of. -/
def bestTo (p : Nat → Bool) : Nat → Int
  | 0 => -1
  | m + 1 => if p m = true ∧ (bestTo p m < 0 ∨ rankN m < rankN (bestTo p m).toNat) then (m : Int) else bestTo p m
theorem best_skip {p : Nat → Bool} {m : Nat} (h : p m = false) : bestTo p m = bestTo p (m + 1) := by
  show _ = if _ then _ else _
  rw [if_neg (by rw [h]; simp)]
theorem best_first {p : Nat → Bool} {m : Nat} (h : p m = true) (hb : bestTo p m = -1) : (m : Int) = bestTo p (m + 1) := by
  show _ = if _ then _ else _
  rw [if_pos ⟨h, .inl (by rw [hb]; decide)⟩]
theorem best_less {p : Nat → Bool} {m b : Nat} (h : p m = true) (hb : bestTo p m = (b : Int)) (hr : rankN m < rankN b) : (m : Int) = bestTo p (m + 1) := by
  show _ = if _ then _ else _
  rw [if_pos ⟨h, .inr (by rw [hb, Int.toNat_natCast]; exact hr)⟩]
theorem best_keep {p : Nat → Bool} {m b : Nat} (hb : bestTo p m = (b : Int)) (hr : ¬ rankN m < rankN b) : (b : Int) = bestTo p (m + 1) := by
  show _ = if _ then _ else _
  rw [if_neg (by rw [hb, Int.toNat_natCast]; intro hh; rcases hh.2 with h1 | h1; exact absurd h1 (by omega); exact hr h1), hb]
theorem best_cases (p : Nat → Bool) : ∀ m, (bestTo p m = -1 ∧ ∀ i, i < m → p i = false) ∨ ∃ b : Nat, b < m ∧ bestTo p m = (b : Int) ∧ p b = true ∧ ∀ i, i < m → p i = true → rankN b ≤ rankN i
  | 0 => .inl ⟨rfl, fun i hi => absurd hi (by omega)⟩
  | m + 1 => by
    cases hp : p m with
    | false =>
      rw [← best_skip hp]
      rcases best_cases p m with ⟨h1, h2⟩ | ⟨b, h1, h2, h3, h4⟩
      · exact .inl ⟨h1, fun i hi => by rcases Nat.lt_succ_iff_lt_or_eq.1 hi with h | rfl; exact h2 i h; exact hp⟩
      · exact .inr ⟨b, by omega, h2, h3, fun i hi hpi => by rcases Nat.lt_succ_iff_lt_or_eq.1 hi with h | rfl; exact h4 i h hpi; rw [hp] at hpi; cases hpi⟩
    | true =>
      rcases best_cases p m with ⟨h1, h2⟩ | ⟨b, h1, h2, h3, h4⟩
      · rw [← best_first hp h1]
        exact .inr ⟨m, by omega, rfl, hp, fun i hi hpi => by rcases Nat.lt_succ_iff_lt_or_eq.1 hi with h | rfl; rw [h2 i h] at hpi; cases hpi; exact Int.le_refl _⟩
      · by_cases hr : rankN m < rankN b
        · rw [← best_less hp h2 hr]
          exact .inr ⟨m, by omega, rfl, hp, fun i hi hpi => by rcases Nat.lt_succ_iff_lt_or_eq.1 hi with h | rfl; have := h4 i h hpi; omega; exact Int.le_refl _⟩
        · rw [← best_keep h2 hr]
          exact .inr ⟨b, by omega, rfl, h3, fun i hi hpi => by rcases Nat.lt_succ_iff_lt_or_eq.1 hi with h | rfl; exact h4 i h hpi; omega⟩
theorem rank_inj : ∀ i : Fin 64, ∀ j : Fin 64, rankN i.val = rankN j.val → i = j := by decide +kernel
theorem rank_before : ∀ i : Fin 74, ∀ n : Fin 64, rankN n.val < rankN (allN.getD i.val 0) → n.val ∈ allN.take i.val := by decide +kernel
theorem best_find (p : Nat → Bool) : (bestTo p 64 = -1 ∧ allN.find? p = none) ∨ ∃ b : Nat, b < 64 ∧ bestTo p 64 = (b : Int) ∧ allN.find? p = some b := by
  rcases best_cases p 64 with ⟨h1, h2⟩ | ⟨b, h1, h2, h3, h4⟩
  · exact .inl ⟨h1, List.find?_eq_none.2 (fun i hi => by rw [h2 i (allN_lt i hi)]; simp)⟩
  · refine .inr ⟨b, h1, h2, ?_⟩
    cases hf : allN.find? p with
    | none => exact absurd h3 (by have := List.find?_eq_none.1 hf b (allN_mem b h1); simpa using this)
    | some m =>
      have hm : m < 64 := allN_lt m (List.mem_of_find?_eq_some hf)
      have hpm : p m = true := List.find?_some hf
      obtain ⟨_, i, hi, him, hbef⟩ := List.find?_eq_some_iff_getElem.1 hf
      have hle : rankN m ≤ rankN b := by
        rcases Int.lt_or_le (rankN b) (rankN m) with hlt | hle
        · exfalso
          have hg : allN.getD i 0 = m := by rw [List.getD_eq_getElem?_getD, List.getElem?_eq_getElem hi]; exact him
          have hmem : b ∈ allN.take i := rank_before ⟨i, hi⟩ ⟨b, h1⟩ (by rw [hg]; exact hlt)
          obtain ⟨j, hj, hjb⟩ := List.mem_iff_getElem.1 hmem
          have hj2 : j < i := by have := hj; rw [List.length_take] at this; exact (Nat.lt_min.1 this).1
          rw [List.getElem_take] at hjb
          have := hbef j hj2
          rw [hjb, h3] at this
          simp at this
        · exact hle
      have := h4 m hm hpm
      have he := rank_inj ⟨b, h1⟩ ⟨m, hm⟩ (by show rankN b = rankN m; omega)
      rw [Fin.mk.inj he]
/-- What a level's round looks for. -/
def cnd (h : Ht) (av : Int) (L n : Nat) : Bool := g av n && (decide (rlev h n = L) && openV h L)
theorem g_rlev (h : Ht) (av : Int) (L n : Nat) (hL : L < 3) (hn : n < 64) : g (levelV h av L) n = (g av n && decide (rlev h n = L)) := by
  obtain ⟨l0, l1, l2⟩ := g_level h av n hn
  unfold rlev
  rcases (by omega : L = 0 ∨ L = 1 ∨ L = 2) with rfl | rfl | rfl
  · rw [l0]; cases g (h.x 40) n <;> cases g (h.x 60) n <;> simp
  · rw [l1]; cases g (h.x 40) n <;> cases g (h.x 60) n <;> simp
  · rw [l2]; cases g (h.x 40) n <;> cases g (h.x 60) n <;> simp
theorem find_cong {p q : Nat → Bool} : ∀ l : List Nat, (∀ i ∈ l, p i = q i) → l.find? p = l.find? q
  | [], _ => rfl
  | a :: l, h => by rw [List.find?_cons, List.find?_cons, h a (by simp), find_cong l (fun i hi => h i (by simp [hi]))]
theorem best_cand (h : Ht) (av : Int) (L : Nat) (hL : L < 3) : (bestTo (cnd h av L) 64 = -1 ∧ candV h av L = none) ∨ ∃ b : Nat, b < 64 ∧ bestTo (cnd h av L) 64 = (b : Int) ∧ candV h av L = some (b : Int) := by
  have key : (allN.find? (cnd h av L)).map (fun i : Nat => (i : Int)) = candV h av L := by
    unfold candV
    by_cases ho : openV h L = true
    · rw [if_pos ho, pick_find _ (levelV_range h av L)]
      unfold pickN
      rw [find_cong (p := cnd h av L) (q := g (levelV h av L)) allN (fun i hi => by rw [g_rlev h av L i hL (allN_lt i hi)]; unfold cnd; rw [ho, Bool.and_true])]
    · rw [if_neg ho]
      have ho2 : openV h L = false := by simpa using ho
      have : allN.find? (cnd h av L) = none := List.find?_eq_none.2 (fun i _ => by unfold cnd; rw [ho2]; simp)
      rw [this]; rfl
  rcases best_find (cnd h av L) with ⟨h1, h2⟩ | ⟨b, hb, h1, h2⟩
  · exact .inl ⟨h1, by rw [← key, h2]; rfl⟩
  · exact .inr ⟨b, hb, h1, by rw [← key, h2]; rfl⟩

end Go.Proofs.YtpbodidpcbodaaaDoor.Hx

namespace Go.Proofs.YtpbodidpcbodaaaDoor.Hx
open Go.Proofs.YtpbodidpcbodaaaDoor.Bv Go.RowKit Go.Proofs.YtpbodidpcbodaaaDoor.Q Go.Proofs.YtpbodidpcbodaaaDoorW.PrintWords Go.Proofs.YtpbodidpcbodaaaDoorW.PrintLast Go.Proofs.YtpbodidpcbodaaaDoorW.PrintMore Go.Proofs.YtpbodidpcbodaaaDoor.Rg

theorem asksV_range (h : Ht) (la lb lc ld : Bool) (lg lt : Int) : 0 ≤ asksV h la lb lc ld lg lt ∧ asksV h la lb lc ld lg lt < 18446744073709551616 := by unfold asksV; rw [and_u64]; exact U_range _
theorem trapS (m : Nat) (hm : m < 64) : trapV (some (m : Int)) = #[.bool true, .int .u64 (9223372036854775808 + (m : Int)), .int .u64 0, .int .u64 0, .int .u64 0, .bool false] := by
  show #[_, Value.int .u64 (Go.bits .or .u64 9223372036854775808 (IntKind.u64.wrap (m : Int))), _, _, _, _] = _
  rw [(cause_word m hm).1]

set_option maxHeartbeats 16000000 in
set_option maxRecDepth 100000 in
theorem rnext_c (h : Ht) (hw : h.wf) (la lb lc ld : Bool) (lg lt : Int) (hg : 0 ≤ lg ∧ lg < 18446744073709551616) (w : World) : Calls Tryd.prog 11 #[.agg h.cs, .agg #[.bool la, .bool lb, .bool lc, .bool ld, .int .u64 lg, .int .u64 lt]] w fun e w' => e = .returned (.agg (trapV (nextO h (asksV h la lb lc ld lg lt)))) ∧ Below w.heap.size w w' := by
  have HA := Lib.hid (rasks_c h hw la lb lc ld lg lt hg)
  have hav := Lib.hid (asksV_range h la lb lc ld lg lt)
  generalize asksV h la lb lc ld lg lt = av at *
  have HW := Lib.hid hw
  clear hw hg
  have hu25 := Tryd.underlying25; have hu27 := Tryd.underlying27
  go_enter Tryd.func11, Tryd.ntmps11
  go_upto_region 1 with (first | ((with_reducible refine gate_dst (N := 2) rfl ?_); refine box_event ?hg (N := 2) ?hd (cs := h.cs) (t := 25) ?hr ?_; (case hd => rfl); (case hg => rfl); (case hr => first | (go_simp; done) | (go_simp; rfl)); intro ga hg w_1 H1 hb; have hB_2 := Lib.hid (below_step (Below.refl w.heap.size w) hb); have G_ga := Lib.hid (show w.heap.size ≤ ga by rw [hg]; exact ((Below.refl w.heap.size w)).size); have K_ga := Lib.hid (show Hb w_1 ga h from H1); clear hg hb H1) | ((with_reducible refine gate_dst (N := 3) rfl ?_); refine box_event ?hg (N := 3) ?hd (cs := #[.bool la, .bool lb, .bool lc, .bool ld, .int .u64 lg, .int .u64 lt]) (t := 27) ?hr ?_; (case hd => rfl); (case hg => rfl); (case hr => first | (go_simp; done) | (go_simp; rfl)); intro gt hg w_3 H1 hb; have hB_4 := Lib.hid (below_step hB_2.out hb); have G_gt := Lib.hid (show w.heap.size ≤ gt by rw [hg]; exact (hB_2.out).size); have N_ga_gt := Lib.hid (show ga ≠ gt by rw [hg]; exact Nat.ne_of_lt (K_ga.out.lt)); replace K_ga := Lib.hid (K_ga.out.below hb); have K_gt := Lib.hid (show w_3.heap[gt]? = some (.cells #[.bool la, .bool lb, .bool lc, .bool ld, .int .u64 lg, .int .u64 lt] 27 (0, 0)) from H1); clear hg hb H1 hB_2) | ((with_reducible refine gate_dst (N := 4) rfl ?_); refine box_event ?hg (N := 4) ?hd (cs := #[.bool false, .int .u64 0, .int .u64 0, .int .u64 0, .int .u64 0, .bool false]) (t := 29) ?hr ?_; (case hd => rfl); (case hg => rfl); (case hr => first | (go_simp; done) | (go_simp; rfl)); intro gr hg w_5 H1 hb; have hB_6 := Lib.hid (below_step hB_4.out hb); have G_gr := Lib.hid (show w.heap.size ≤ gr by rw [hg]; exact (hB_4.out).size); have N_ga_gr := Lib.hid (show ga ≠ gr by rw [hg]; exact Nat.ne_of_lt (K_ga.out.lt)); have N_gt_gr := Lib.hid (show gt ≠ gr by rw [hg]; exact Nat.ne_of_lt (blk_lt K_gt.out)); replace K_ga := Lib.hid (K_ga.out.below hb); replace K_gt := Lib.hid (blk_below K_gt.out hb); have K_gr := Lib.hid (show w_5.heap[gr]? = some (.cells #[.bool false, .int .u64 0, .int .u64 0, .int .u64 0, .int .u64 0, .bool false] 29 (0, 0)) from H1); clear hg hb H1 hB_4; clear hu25 hu27))
  go_wp2_with (first | ((with_reducible refine gate_dst (N := 9) rfl ?_); (first | (refine gate_guard (by kernel_rfl) ?_) | skip); refine Kd.event_run rfl (v := .agg (h).cs) (w1 := w_5) ?hb ?_; (case hb => exact exec_load_hart rfl rfl K_ga.out)) | ((with_reducible refine gate_dst (N := 10) rfl ?_); (first | (refine gate_guard (by kernel_rfl) ?_) | skip); refine Kd.event_run rfl (v := .agg #[.bool la, .bool lb, .bool lc, .bool ld, .int .u64 lg, .int .u64 lt]) (w1 := w_5) ?hb ?_; (case hb => exact exec_load_blk rfl rfl K_gt.out Tryd.underlying27 rfl (by kernel_rfl))))
  refine (HA.out _).mono ?_
  rintro e_7 w_8 ⟨rfl, hb⟩
  have hB_9 := Lib.hid (below_step hB_6.out hb)
  replace K_ga := Lib.hid (K_ga.out.below hb)
  replace K_gt := Lib.hid (blk_below K_gt.out hb)
  replace K_gr := Lib.hid (blk_below K_gr.out hb)
  clear hb hB_6
  clear K_gt N_ga_gt N_gt_gr G_gt
  go_wp2_with fail
  go_loopw [6] (fun v6 wr => ∃ (L : Nat), L ≤ 3 ∧ v6 = .int .i64 (L : Int) ∧ nextTo h av L = none ∧ Hb wr ga h ∧ (wr.heap[gr]? = some (.cells #[.bool false, .int .u64 0, .int .u64 0, .int .u64 0, .int .u64 0, .bool false] 29 (0, 0))) ∧ Below w.heap.size w wr) (fun v6 _ => 3 - (intOf v6).toNat)
  case atStart => exact ⟨0, by decide, rfl, rfl, K_ga.out, K_gr.out, hB_9.out⟩
  case round =>
    clear K_ga K_gr hB_9
    obtain ⟨L, hL, rfl, hn, h1, h2, h3⟩ := hrel
    have K_ga := Lib.hid h1; have K_gr := Lib.hid h2; have HB := Lib.hid h3; have HN := Lib.hid hn
    clear h1 h2 h3 hn
    by_cases hL3 : L < 3
    rotate_left
    · obtain rfl : L = 3 := by omega
      have hnx : nextO h av = none := HN.out
      have c_gr_0 := (show World.cell? _ ⟨gr, 0, none⟩ = some (.bool false) from (blk_cell K_gr.out 0).trans rfl); have f_gr_0 := blk_frozen K_gr.out 0
      have c_gr_1 := (show World.cell? _ ⟨gr, 1, none⟩ = some (.int .u64 0) from (blk_cell K_gr.out 1).trans rfl); have f_gr_1 := blk_frozen K_gr.out 1
      have c_gr_2 := (show World.cell? _ ⟨gr, 2, none⟩ = some (.int .u64 0) from (blk_cell K_gr.out 2).trans rfl); have f_gr_2 := blk_frozen K_gr.out 2
      have c_gr_3 := (show World.cell? _ ⟨gr, 3, none⟩ = some (.int .u64 0) from (blk_cell K_gr.out 3).trans rfl); have f_gr_3 := blk_frozen K_gr.out 3
      have c_gr_4 := (show World.cell? _ ⟨gr, 4, none⟩ = some (.int .u64 0) from (blk_cell K_gr.out 4).trans rfl); have f_gr_4 := blk_frozen K_gr.out 4
      have c_gr_5 := (show World.cell? _ ⟨gr, 5, none⟩ = some (.bool false) from (blk_cell K_gr.out 5).trans rfl); have f_gr_5 := blk_frozen K_gr.out 5
      go_wp2
      refine bodyPost_ret (results_cell_row rfl _ _ gr 29 _ (0, 0) _ rfl (blk_putAll (trapV none) K_gr.out rfl) Tryd.underlying29 rfl (by kernel_rfl)) rfl ?_
      exact ⟨by rw [hnx], setCells_below G_gr.out (trapV none).toList 0 _ HB.out⟩
    · have HO := Lib.hid (ropen_c h L hL3)
      have d3 : decide ((L : Int) < 3) = true := decide_eq_true (by omega)
      go_wp2_with fail
      go_loopw [7, 8] (fun v7 v8 wq => ∃ (m : Nat), m ≤ 64 ∧ v8 = .int .i64 (m : Int) ∧ v7 = .int .i64 (bestTo (cnd h av L) m) ∧ Hb wq ga h ∧ (wq.heap[gr]? = some (.cells #[.bool false, .int .u64 0, .int .u64 0, .int .u64 0, .int .u64 0, .bool false] 29 (0, 0))) ∧ Below w.heap.size w wq) (fun _ v8 _ => 64 - (intOf v8).toNat)
      case atStart => exact ⟨0, by decide, rfl, rfl, K_ga.out, K_gr.out, HB.out⟩
      case round =>
        clear K_ga K_gr HB
        obtain ⟨m, hm, rfl, rfl, h1, h2, h3⟩ := hrel
        have K_ga := Lib.hid h1; have K_gr := Lib.hid h2; have HB := Lib.hid h3
        clear h1 h2 h3
        by_cases hm64 : m < 64
        rotate_left
        · obtain rfl : m = 64 := by omega
          rcases best_cand h av L hL3 with ⟨hb, hc⟩ | ⟨b, hb64, hb, hc⟩
          · rw [hb]
            go_wp2
            exact ⟨⟨L + 1, by omega, by go_num, (by show (nextTo h av L).or (candV h av L) = none; rw [HN.out, hc]; rfl), K_ga.out, K_gr.out, HB.out⟩, (by first | (simp [intOf]; done) | (simp [intOf]; omega))⟩
          · rw [hb]
            have hnx : nextO h av = some (b : Int) := (show nextTo h av 3 = _ from (show L + 1 + (3 - (L + 1)) = 3 by omega) ▸ nextTo_mono h av b (L + 1) (by show (nextTo h av L).or (candV h av L) = some (b : Int); rw [HN.out, hc]; rfl) (3 - (L + 1)))
            have c_gr_0 := (show World.cell? _ ⟨gr, 0, none⟩ = some (.bool false) from (blk_cell K_gr.out 0).trans rfl); have f_gr_0 := blk_frozen K_gr.out 0
            have c_gr_1 := (show World.cell? _ ⟨gr, 1, none⟩ = some (.int .u64 0) from (blk_cell K_gr.out 1).trans rfl); have f_gr_1 := blk_frozen K_gr.out 1
            have c_gr_2 := (show World.cell? _ ⟨gr, 2, none⟩ = some (.int .u64 0) from (blk_cell K_gr.out 2).trans rfl); have f_gr_2 := blk_frozen K_gr.out 2
            have c_gr_3 := (show World.cell? _ ⟨gr, 3, none⟩ = some (.int .u64 0) from (blk_cell K_gr.out 3).trans rfl); have f_gr_3 := blk_frozen K_gr.out 3
            have c_gr_4 := (show World.cell? _ ⟨gr, 4, none⟩ = some (.int .u64 0) from (blk_cell K_gr.out 4).trans rfl); have f_gr_4 := blk_frozen K_gr.out 4
            have c_gr_5 := (show World.cell? _ ⟨gr, 5, none⟩ = some (.bool false) from (blk_cell K_gr.out 5).trans rfl); have f_gr_5 := blk_frozen K_gr.out 5
            go_wp2
            refine bodyPost_ret (results_cell_row rfl _ _ gr 29 _ (0, 0) _ rfl (blk_putAll #[.bool true, .int .u64 (9223372036854775808 + (b : Int)), .int .u64 0, .int .u64 0, .int .u64 0, .bool false] K_gr.out rfl) Tryd.underlying29 rfl (by kernel_rfl)) rfl ?_
            exact ⟨by rw [hnx, trapS b hb64], setCells_below G_gr.out (Array.toList #[.bool true, .int .u64 (9223372036854775808 + (b : Int)), .int .u64 0, .int .u64 0, .int .u64 0, .bool false]) 0 _ HB.out⟩
        · skip
          have d6 : decide ((m : Int) < 64) = true := decide_eq_true (by omega)
          have h1 := rbit_c av hav.out m hm64
          have h2 := rlevel_c h HW.out m hm64
          have HR1 := Lib.hid (rank_c m)
          rcases (Bool.eq_false_or_eq_true (g av m)).symm with c1 | c1
          · rw [c1] at h1
            have H1 := Lib.hid h1; clear h1 h2
            go_wp2_with fail
            refine (H1.out _).mono ?_
            rintro e_10 w_11 ⟨rfl, hb⟩
            have hB_12 := Lib.hid (below_step HB.out hb)
            replace K_ga := Lib.hid (K_ga.out.below hb)
            replace K_gr := Lib.hid (blk_below K_gr.out hb)
            clear hb HB
            go_wp2
            go_roundw
            case rel => exact ⟨m + 1, by omega, by go_num, congrArg (Value.int .i64) (best_skip (by unfold cnd; simp [c1])), K_ga.out, K_gr.out, hB_12.out⟩
            case measure => first | (simp [intOf]; done) | (simp [intOf]; omega)
          · rw [c1] at h1
            have H1 := Lib.hid h1; have H2 := Lib.hid h2; clear h1 h2
            by_cases c2 : rlev h m = L
            rotate_left
            · have e2 : ((rlev h m : Int) == (L : Int)) = false := beq_eq_false_iff_ne.2 (fun e => c2 (Int.ofNat.inj e))
              go_wp2_with fail
              refine (H1.out _).mono ?_
              rintro e_10 w_11 ⟨rfl, hb⟩
              have hB_12 := Lib.hid (below_step HB.out hb)
              replace K_ga := Lib.hid (K_ga.out.below hb)
              replace K_gr := Lib.hid (blk_below K_gr.out hb)
              clear hb HB
              go_wp2_with (first | ((with_reducible refine gate_dst (N := 24) rfl ?_); (first | (refine gate_guard (by kernel_rfl) ?_) | skip); refine Kd.event_run rfl (v := .agg (h).cs) (w1 := w_11) ?hb ?_; (case hb => exact exec_load_hart rfl rfl K_ga.out)))
              refine (H2.out _).mono ?_
              rintro e_13 w_14 ⟨rfl, hb⟩
              have hB_15 := Lib.hid (below_step hB_12.out hb)
              replace K_ga := Lib.hid (K_ga.out.below hb)
              replace K_gr := Lib.hid (blk_below K_gr.out hb)
              clear hb hB_12
              go_wp2
              go_roundw
              case rel => exact ⟨m + 1, by omega, by go_num, congrArg (Value.int .i64) (best_skip (by unfold cnd; rw [decide_eq_false c2]; simp)), K_ga.out, K_gr.out, hB_15.out⟩
              case measure => first | (simp [intOf]; done) | (simp [intOf]; omega)
            · rw [c2] at H2
              have e2 : ((L : Int) == (L : Int)) = true := beq_self_eq_true _
              rcases (Bool.eq_false_or_eq_true (openV h L)).symm with c3 | c3
              · rw [c3] at HO
                go_wp2_with fail
                refine (H1.out _).mono ?_
                rintro e_10 w_11 ⟨rfl, hb⟩
                have hB_12 := Lib.hid (below_step HB.out hb)
                replace K_ga := Lib.hid (K_ga.out.below hb)
                replace K_gr := Lib.hid (blk_below K_gr.out hb)
                clear hb HB
                go_wp2_with (first | ((with_reducible refine gate_dst (N := 24) rfl ?_); (first | (refine gate_guard (by kernel_rfl) ?_) | skip); refine Kd.event_run rfl (v := .agg (h).cs) (w1 := w_11) ?hb ?_; (case hb => exact exec_load_hart rfl rfl K_ga.out)))
                refine (H2.out _).mono ?_
                rintro e_13 w_14 ⟨rfl, hb⟩
                have hB_15 := Lib.hid (below_step hB_12.out hb)
                replace K_ga := Lib.hid (K_ga.out.below hb)
                replace K_gr := Lib.hid (blk_below K_gr.out hb)
                clear hb hB_12
                go_wp2_with (first | ((with_reducible refine gate_dst (N := 31) rfl ?_); (first | (refine gate_guard (by kernel_rfl) ?_) | skip); refine Kd.event_run rfl (v := .agg (h).cs) (w1 := w_14) ?hb ?_; (case hb => exact exec_load_hart rfl rfl K_ga.out)))
                refine (HO.out _).mono ?_
                rintro e_16 w_17 ⟨rfl, hb⟩
                have hB_18 := Lib.hid (below_step hB_15.out hb)
                replace K_ga := Lib.hid (K_ga.out.below hb)
                replace K_gr := Lib.hid (blk_below K_gr.out hb)
                clear hb hB_15
                go_wp2
                go_roundw
                case rel => exact ⟨m + 1, by omega, by go_num, congrArg (Value.int .i64) (best_skip (by unfold cnd; rw [c3]; simp)), K_ga.out, K_gr.out, hB_18.out⟩
                case measure => first | (simp [intOf]; done) | (simp [intOf]; omega)
              · rw [c3] at HO
                have hp : cnd h av L m = true := by unfold cnd; rw [c1, c3, decide_eq_true c2]; rfl
                rcases best_cases (cnd h av L) m with ⟨hb, _⟩ | ⟨b, hbm, hb, _⟩
                · rw [hb]
                  go_wp2_with fail
                  refine (H1.out _).mono ?_
                  rintro e_10 w_11 ⟨rfl, hb⟩
                  have hB_12 := Lib.hid (below_step HB.out hb)
                  replace K_ga := Lib.hid (K_ga.out.below hb)
                  replace K_gr := Lib.hid (blk_below K_gr.out hb)
                  clear hb HB
                  go_wp2_with (first | ((with_reducible refine gate_dst (N := 24) rfl ?_); (first | (refine gate_guard (by kernel_rfl) ?_) | skip); refine Kd.event_run rfl (v := .agg (h).cs) (w1 := w_11) ?hb ?_; (case hb => exact exec_load_hart rfl rfl K_ga.out)))
                  refine (H2.out _).mono ?_
                  rintro e_13 w_14 ⟨rfl, hb⟩
                  have hB_15 := Lib.hid (below_step hB_12.out hb)
                  replace K_ga := Lib.hid (K_ga.out.below hb)
                  replace K_gr := Lib.hid (blk_below K_gr.out hb)
                  clear hb hB_12
                  go_wp2_with (first | ((with_reducible refine gate_dst (N := 31) rfl ?_); (first | (refine gate_guard (by kernel_rfl) ?_) | skip); refine Kd.event_run rfl (v := .agg (h).cs) (w1 := w_14) ?hb ?_; (case hb => exact exec_load_hart rfl rfl K_ga.out)))
                  refine (HO.out _).mono ?_
                  rintro e_16 w_17 ⟨rfl, hb⟩
                  have hB_18 := Lib.hid (below_step hB_15.out hb)
                  replace K_ga := Lib.hid (K_ga.out.below hb)
                  replace K_gr := Lib.hid (blk_below K_gr.out hb)
                  clear hb hB_15
                  go_wp2
                  go_roundw
                  case rel => exact ⟨m + 1, by omega, by go_num, congrArg (Value.int .i64) (best_first hp hb), K_ga.out, K_gr.out, hB_18.out⟩
                  case measure => first | (simp [intOf]; done) | (simp [intOf]; omega)
                · rw [hb]
                  have HR2 := Lib.hid (rank_c b)
                  have e5 : ((b : Int) < 0) = False := eq_false (by omega)
                  by_cases c5 : rankN m < rankN b
                  · have e6 : decide (rankN m < rankN b) = true := decide_eq_true c5
                    go_wp2_with fail
                    refine (H1.out _).mono ?_
                    rintro e_10 w_11 ⟨rfl, hb⟩
                    have hB_12 := Lib.hid (below_step HB.out hb)
                    replace K_ga := Lib.hid (K_ga.out.below hb)
                    replace K_gr := Lib.hid (blk_below K_gr.out hb)
                    clear hb HB
                    go_wp2_with (first | ((with_reducible refine gate_dst (N := 24) rfl ?_); (first | (refine gate_guard (by kernel_rfl) ?_) | skip); refine Kd.event_run rfl (v := .agg (h).cs) (w1 := w_11) ?hb ?_; (case hb => exact exec_load_hart rfl rfl K_ga.out)))
                    refine (H2.out _).mono ?_
                    rintro e_13 w_14 ⟨rfl, hb⟩
                    have hB_15 := Lib.hid (below_step hB_12.out hb)
                    replace K_ga := Lib.hid (K_ga.out.below hb)
                    replace K_gr := Lib.hid (blk_below K_gr.out hb)
                    clear hb hB_12
                    go_wp2_with (first | ((with_reducible refine gate_dst (N := 31) rfl ?_); (first | (refine gate_guard (by kernel_rfl) ?_) | skip); refine Kd.event_run rfl (v := .agg (h).cs) (w1 := w_14) ?hb ?_; (case hb => exact exec_load_hart rfl rfl K_ga.out)))
                    refine (HO.out _).mono ?_
                    rintro e_16 w_17 ⟨rfl, hb⟩
                    have hB_18 := Lib.hid (below_step hB_15.out hb)
                    replace K_ga := Lib.hid (K_ga.out.below hb)
                    replace K_gr := Lib.hid (blk_below K_gr.out hb)
                    clear hb hB_15
                    go_wp2_with fail
                    refine (HR1.out _).mono ?_
                    rintro e_19 w_20 ⟨rfl, hb⟩
                    have hB_21 := Lib.hid (below_step hB_18.out hb)
                    replace K_ga := Lib.hid (K_ga.out.below hb)
                    replace K_gr := Lib.hid (blk_below K_gr.out hb)
                    clear hb hB_18
                    go_wp2_with fail
                    refine (HR2.out _).mono ?_
                    rintro e_22 w_23 ⟨rfl, hb⟩
                    have hB_24 := Lib.hid (below_step hB_21.out hb)
                    replace K_ga := Lib.hid (K_ga.out.below hb)
                    replace K_gr := Lib.hid (blk_below K_gr.out hb)
                    clear hb hB_21
                    go_wp2
                    go_roundw
                    case rel => exact ⟨m + 1, by omega, by go_num, congrArg (Value.int .i64) (best_less hp hb c5), K_ga.out, K_gr.out, hB_24.out⟩
                    case measure => first | (simp [intOf]; done) | (simp [intOf]; omega)
                  · have e6 : decide (rankN m < rankN b) = false := decide_eq_false c5
                    go_wp2_with fail
                    refine (H1.out _).mono ?_
                    rintro e_10 w_11 ⟨rfl, hb⟩
                    have hB_12 := Lib.hid (below_step HB.out hb)
                    replace K_ga := Lib.hid (K_ga.out.below hb)
                    replace K_gr := Lib.hid (blk_below K_gr.out hb)
                    clear hb HB
                    go_wp2_with (first | ((with_reducible refine gate_dst (N := 24) rfl ?_); (first | (refine gate_guard (by kernel_rfl) ?_) | skip); refine Kd.event_run rfl (v := .agg (h).cs) (w1 := w_11) ?hb ?_; (case hb => exact exec_load_hart rfl rfl K_ga.out)))
                    refine (H2.out _).mono ?_
                    rintro e_13 w_14 ⟨rfl, hb⟩
                    have hB_15 := Lib.hid (below_step hB_12.out hb)
                    replace K_ga := Lib.hid (K_ga.out.below hb)
                    replace K_gr := Lib.hid (blk_below K_gr.out hb)
                    clear hb hB_12
                    go_wp2_with (first | ((with_reducible refine gate_dst (N := 31) rfl ?_); (first | (refine gate_guard (by kernel_rfl) ?_) | skip); refine Kd.event_run rfl (v := .agg (h).cs) (w1 := w_14) ?hb ?_; (case hb => exact exec_load_hart rfl rfl K_ga.out)))
                    refine (HO.out _).mono ?_
                    rintro e_16 w_17 ⟨rfl, hb⟩
                    have hB_18 := Lib.hid (below_step hB_15.out hb)
                    replace K_ga := Lib.hid (K_ga.out.below hb)
                    replace K_gr := Lib.hid (blk_below K_gr.out hb)
                    clear hb hB_15
                    go_wp2_with fail
                    refine (HR1.out _).mono ?_
                    rintro e_19 w_20 ⟨rfl, hb⟩
                    have hB_21 := Lib.hid (below_step hB_18.out hb)
                    replace K_ga := Lib.hid (K_ga.out.below hb)
                    replace K_gr := Lib.hid (blk_below K_gr.out hb)
                    clear hb hB_18
                    go_wp2_with fail
                    refine (HR2.out _).mono ?_
                    rintro e_22 w_23 ⟨rfl, hb⟩
                    have hB_24 := Lib.hid (below_step hB_21.out hb)
                    replace K_ga := Lib.hid (K_ga.out.below hb)
                    replace K_gr := Lib.hid (blk_below K_gr.out hb)
                    clear hb hB_21
                    go_wp2
                    go_roundw
                    case rel => exact ⟨m + 1, by omega, by go_num, congrArg (Value.int .i64) (best_keep hb (by omega)), K_ga.out, K_gr.out, hB_24.out⟩
                    case measure => first | (simp [intOf]; done) | (simp [intOf]; omega)
end Go.Proofs.YtpbodidpcbodaaaDoor.Hx

namespace Go.Proofs.YtpbodidpcbodaaaDoor.Hx
open Go.Proofs.YtpbodidpcbodaaaDoor.Bv Go.RowKit Go.Proofs.YtpbodidpcbodaaaDoor.Q Go.Proofs.YtpbodidpcbodaaaDoorW.PrintWords Go.Proofs.YtpbodidpcbodaaaDoorW.PrintLast Go.Proofs.YtpbodidpcbodaaaDoorW.PrintMore Go.Proofs.YtpbodidpcbodaaaDoor.Rg

/-- Are two traps the same? -/
def teq (ai : Bool) (ac av av2 an : Int) (ag : Bool) (bi : Bool) (bc bv bv2 bn : Int) (bg : Bool) : Bool := (ai == bi) && ((ac == bc) && ((av == bv) && ((av2 == bv2) && ((an == bn) && (ag == bg)))))
theorem teq_self (ai : Bool) (ac av av2 an : Int) (ag : Bool) : teq ai ac av av2 an ag ai ac av av2 an ag = true := by simp [teq]
set_option maxHeartbeats 4000000 in
set_option maxRecDepth 100000 in
theorem eqTr (d : Nat) (w : World) (ai : Bool) (ac av av2 an : Int) (ag : Bool) (bi : Bool) (bc bv bv2 bn : Int) (bg : Bool) :
    (Op.equalIn (d + 4) 29 (.agg #[.bool ai, .int .u64 ac, .int .u64 av, .int .u64 av2, .int .u64 an, .bool ag]) (.agg #[.bool bi, .int .u64 bc, .int .u64 bv, .int .u64 bv2, .int .u64 bn, .bool bg])).run Tryd.prog w = .ok (teq ai ac av av2 an ag bi bc bv bv2 bn bg) w := by
  refine eqA_of Tryd.underlying29 (by kernel_rfl) ?_
  refine eqf_cons (by rfl) (a := .bool ai) (b := .bool bi) (partB (by rfl)) (partB (by rfl)) (run_equalIn_bool w (d + 2) _ _ _ Tryd.underlying4) ?_
  refine eqf_cons (by rfl) (a := .int .u64 ac) (b := .int .u64 bc) (partU (by rfl)) (partU (by rfl)) (run_equalIn_int w (d + 2) _ .u64 .u64 _ _ Tryd.underlying22) ?_
  refine eqf_cons (by rfl) (a := .int .u64 av) (b := .int .u64 bv) (partU (by rfl)) (partU (by rfl)) (run_equalIn_int w (d + 2) _ .u64 .u64 _ _ Tryd.underlying22) ?_
  refine eqf_cons (by rfl) (a := .int .u64 av2) (b := .int .u64 bv2) (partU (by rfl)) (partU (by rfl)) (run_equalIn_int w (d + 2) _ .u64 .u64 _ _ Tryd.underlying22) ?_
  refine eqf_cons (by rfl) (a := .int .u64 an) (b := .int .u64 bn) (partU (by rfl)) (partU (by rfl)) (run_equalIn_int w (d + 2) _ .u64 .u64 _ _ Tryd.underlying22) ?_
  exact eqf_last (by rfl) (a := .bool ag) (b := .bool bg) (partB (by rfl)) (partB (by rfl)) (run_equalIn_bool w (d + 2) _ _ _ Tryd.underlying4)
theorem guardT (op : BinOp) (x y : Operand) (a b : Array Value) (W : World) : (eqGuard op 29 x y (.agg a) (.agg b)).run Tryd.prog W = .ok () W :=
  run_eqGuard_agg W op _ x y _ _ (by kernel_rfl)
theorem exec_teq {o : Oper} {ρ : Operand → Value} {w : World} {x y : Operand} {ty : TypeId} {ai : Bool} {ac av av2 an : Int} {ag : Bool} {bi : Bool} {bc bv bv2 bn : Int} {bg : Bool} {r : Bool} (ho : o.op = .binOp .eql 29 x y ty)
    (hx : ρ x = .agg #[.bool ai, .int .u64 ac, .int .u64 av, .int .u64 av2, .int .u64 an, .bool ag]) (hy : ρ y = .agg #[.bool bi, .int .u64 bc, .int .u64 bv, .int .u64 bv2, .int .u64 bn, .bool bg])
    (hr : teq ai ac av av2 an ag bi bc bv bv2 bn bg = r) : (execOp ρ o).run Tryd.prog w = .ok (.value (.bool r)) w := by
  subst hr
  unfold execOp
  simp only [ho, hx, hy, Sem.run_bind, guardT, Sem.run_pure, Result.andThen_ok, binOp]
  simp [show (Op.equal 29 (.agg #[.bool ai, .int .u64 ac, .int .u64 av, .int .u64 av2, .int .u64 an, .bool ag]) (.agg #[.bool bi, .int .u64 bc, .int .u64 bv, .int .u64 bv2, .int .u64 bn, .bool bg])).run Tryd.prog w = .ok (teq ai ac av av2 an ag bi bc bv bv2 bn bg) w from eqTr 9996 w ai ac av av2 an ag bi bc bv bv2 bn bg]
theorem exec_tne {o : Oper} {ρ : Operand → Value} {w : World} {x y : Operand} {ty : TypeId} {ai : Bool} {ac av av2 an : Int} {ag : Bool} {bi : Bool} {bc bv bv2 bn : Int} {bg : Bool} {r : Bool} (ho : o.op = .binOp .neq 29 x y ty)
    (hx : ρ x = .agg #[.bool ai, .int .u64 ac, .int .u64 av, .int .u64 av2, .int .u64 an, .bool ag]) (hy : ρ y = .agg #[.bool bi, .int .u64 bc, .int .u64 bv, .int .u64 bv2, .int .u64 bn, .bool bg])
    (hr : (!teq ai ac av av2 an ag bi bc bv bv2 bn bg) = r) : (execOp ρ o).run Tryd.prog w = .ok (.value (.bool r)) w := by
  subst hr
  unfold execOp
  simp only [ho, hx, hy, Sem.run_bind, guardT, Sem.run_pure, Result.andThen_ok, binOp]
  simp [show (Op.equal 29 (.agg #[.bool ai, .int .u64 ac, .int .u64 av, .int .u64 av2, .int .u64 an, .bool ag]) (.agg #[.bool bi, .int .u64 bc, .int .u64 bv, .int .u64 bv2, .int .u64 bn, .bool bg])).run Tryd.prog w = .ok (teq ai ac av av2 an ag bi bc bv bv2 bn bg) w from eqTr 9996 w ai ac av av2 an ag bi bc bv bv2 bn bg]

set_option maxHeartbeats 16000000 in
set_option maxRecDepth 100000 in
theorem nexts_c (h : Ht) (hw : h.wf) (la lb lc ld : Bool) (lg lt : Int) (hg : 0 ≤ lg ∧ lg < 18446744073709551616) (w : World) (hT : Tab w) (hZ : TabZ w) : Calls Tryd.prog 5 #[.agg h.cs, .agg #[.bool la, .bool lb, .bool lc, .bool ld, .int .u64 lg, .int .u64 lt]] w fun e w' => e = .returned (.bool true) ∧ Below w.heap.size w w' := by
  have hN := next_c h la lb lc ld lg lt
  have hN2 := rnext_c h hw la lb lc ld lg lt hg
  have hA := asks_c h la lb lc ld lg lt
  have hA2 := rasks_c h hw la lb lc ld lg lt hg
  have hV := wakesV_c h la lb lc ld lg lt
  have hV2 := rwakes_c h hw la lb lc ld lg lt hg
  have HT := Lib.hid hT; have HZ := Lib.hid hZ; clear hT hZ hw hg
  generalize asksV h la lb lc ld lg lt = av at *
  have d1 : (av == av) = true := beq_self_eq_true _
  have d2 : ((av != 0) == (av != 0)) = true := beq_self_eq_true _
  obtain ⟨ti, tc, ht⟩ : ∃ ti tc, trapV (nextO h av) = #[.bool ti, .int .u64 tc, .int .u64 0, .int .u64 0, .int .u64 0, .bool false] := by cases nextO h av <;> exact ⟨_, _, rfl⟩
  rw [ht] at hN hN2
  clear ht
  have HN := Lib.hid hN; have HN2 := Lib.hid hN2; have HA := Lib.hid hA; have HA2 := Lib.hid hA2; have HV := Lib.hid hV; have HV2 := Lib.hid hV2
  clear hN hN2 hA hA2 hV hV2
  generalize (av != 0) = bv at *
  have hu25 := Tryd.underlying25; have hu27 := Tryd.underlying27
  go_enter Tryd.func5, Tryd.ntmps5
  go_upto_region 1 with (first | ((with_reducible refine gate_dst (N := 2) rfl ?_); refine box_event ?hg (N := 2) ?hd (cs := h.cs) (t := 25) ?hr ?_; (case hd => rfl); (case hg => rfl); (case hr => first | (go_simp; done) | (go_simp; rfl)); intro ga hg w_1 H1 hb; have hB_2 := Lib.hid (below_step (Below.refl w.heap.size w) hb); have G_ga := Lib.hid (show w.heap.size ≤ ga by rw [hg]; exact ((Below.refl w.heap.size w)).size); have K_ga := Lib.hid (show Hb w_1 ga h from H1); clear hg hb H1) | ((with_reducible refine gate_dst (N := 3) rfl ?_); refine box_event ?hg (N := 3) ?hd (cs := #[.bool la, .bool lb, .bool lc, .bool ld, .int .u64 lg, .int .u64 lt]) (t := 27) ?hr ?_; (case hd => rfl); (case hg => rfl); (case hr => first | (go_simp; done) | (go_simp; rfl)); intro gt hg w_3 H1 hb; have hB_4 := Lib.hid (below_step hB_2.out hb); have G_gt := Lib.hid (show w.heap.size ≤ gt by rw [hg]; exact (hB_2.out).size); have N_ga_gt := Lib.hid (show ga ≠ gt by rw [hg]; exact Nat.ne_of_lt (K_ga.out.lt)); replace K_ga := Lib.hid (K_ga.out.below hb); have K_gt := Lib.hid (show w_3.heap[gt]? = some (.cells #[.bool la, .bool lb, .bool lc, .bool ld, .int .u64 lg, .int .u64 lt] 27 (0, 0)) from H1); clear hg hb H1 hB_2; clear hu25 hu27))
  refine start_ (n := 29) (S := fun w' => Hb w' ga h ∧ w'.heap[gt]? = some (.cells #[.bool la, .bool lb, .bool lc, .bool ld, .int .u64 lg, .int .u64 lt] 27 (0, 0)) ∧ Tab w' ∧ TabZ w') (ds := []) #[false, false, false, false, false, false, false, false, false, false, false, false, false, false, false, false, false, false, false, false, false, false, false, false, false, false, false, false, false] (by kernel_rfl) rfl rfl ⟨K_ga.out.drew, blk_drew K_gt.out, (Tab.from HT.out (below_drew1 hB_4.out)), (TabZ.from HZ.out (below_drew1 hB_4.out))⟩ (fun hHeld => ?_)
  replace K_ga := Lib.hid (K_ga.out.drew)
  replace K_gt := Lib.hid (blk_drew K_gt.out)
  have hB_6 := Lib.hid (below_drew1 hB_4.out)
  clear hB_4
  generalize World.drew w_3 = w_5 at K_ga K_gt hB_6 hHeld ⊢
  refine take_ (i := 0) (N := some 5) (v := .agg h.cs) (a' := ?_) #[true, false, false, false, false, false, false, false, false, false, false, false, false, false, false, false, false, false, false, false, false, false, false, false, false, false, false, false, false] rfl rfl (by kernel_rfl) (fun _ _ _ h => h) (Or.inl ⟨by rfl, ?_⟩) hHeld ?_ ?_
  · rintro w' ⟨s0, s1, s2, s3⟩; exact exec_load_hart rfl rfl s0
  rotate_left
  · simp only [Act.put, List.setIfInBounds_toArray, List.set_cons_zero, List.set_cons_succ, i64_w, i32_w]
    rfl
  refine take_ (i := 1) (N := some 6) (v := .agg #[.bool la, .bool lb, .bool lc, .bool ld, .int .u64 lg, .int .u64 lt]) (a' := ?_) #[true, true, false, false, false, false, false, false, false, false, false, false, false, false, false, false, false, false, false, false, false, false, false, false, false, false, false, false, false] rfl rfl (by kernel_rfl) (fun _ _ _ h => h) (Or.inl ⟨by rfl, ?_⟩) hHeld ?_ ?_
  · rintro w' ⟨s0, s1, s2, s3⟩; exact exec_load_blk rfl rfl s1 Tryd.underlying27 rfl (by kernel_rfl)
  rotate_left
  · simp only [Act.put, List.setIfInBounds_toArray, List.set_cons_zero, List.set_cons_succ, i64_w, i32_w]
    rfl
  refine take_ (i := 3) (N := some 8) (v := .agg h.cs) (a' := ?_) #[true, true, false, true, false, false, false, false, false, false, false, false, false, false, false, false, false, false, false, false, false, false, false, false, false, false, false, false, false] rfl rfl (by kernel_rfl) (fun _ _ _ h => h) (Or.inl ⟨by rfl, ?_⟩) hHeld ?_ ?_
  · rintro w' ⟨s0, s1, s2, s3⟩; exact exec_load_hart rfl rfl s0
  rotate_left
  · simp only [Act.put, List.setIfInBounds_toArray, List.set_cons_zero, List.set_cons_succ, i64_w, i32_w]
    rfl
  refine take_ (i := 4) (N := some 9) (v := .agg #[.bool la, .bool lb, .bool lc, .bool ld, .int .u64 lg, .int .u64 lt]) (a' := ?_) #[true, true, false, true, true, false, false, false, false, false, false, false, false, false, false, false, false, false, false, false, false, false, false, false, false, false, false, false, false] rfl rfl (by kernel_rfl) (fun _ _ _ h => h) (Or.inl ⟨by rfl, ?_⟩) hHeld ?_ ?_
  · rintro w' ⟨s0, s1, s2, s3⟩; exact exec_load_blk rfl rfl s1 Tryd.underlying27 rfl (by kernel_rfl)
  rotate_left
  · simp only [Act.put, List.setIfInBounds_toArray, List.set_cons_zero, List.set_cons_succ, i64_w, i32_w]
    rfl
  have HH := Lib.hid hHeld
  clear hHeld
  refine one_ (i := 2) (N := some 7) #[true, true, true, true, true, false, false, false, false, false, false, false, false, false, false, false, false, false, false, false, false, false, false, false, false, false, false, false, false] rfl rfl (by kernel_rfl) (by decide) (fun K hK => ?_)
  refine goes_ Tryd.func9 (by kernel_rfl) rfl #[.agg h.cs, .agg #[.bool la, .bool lb, .bool lc, .bool ld, .int .u64 lg, .int .u64 lt]] (by rfl) rfl rfl (by simp only [List.map_toArray, List.map_cons, List.map_nil]; rfl) ?_
  with_reducible refine (HA.out _).mono ?_
  rintro e_ w_7 ⟨rfl, hb⟩
  refine ⟨_, rfl, ?_⟩
  have s_0 := Hb.below (HH.out.1) hb
  have s_1 := blk_below (HH.out.2.1) hb
  have s_2 := Tab.from (HH.out.2.2.1) hb
  have s_3 := TabZ.from (HH.out.2.2.2) hb
  replace K_ga := Lib.hid (K_ga.out.below hb)
  replace K_gt := Lib.hid (blk_below K_gt.out hb)
  have hB_8 := Lib.hid (below_step hB_6.out hb)
  clear HH hb hB_6
  refine hK.out _ _ ⟨s_0, s_1, s_2, s_3⟩ (fun hHeld => ?_)
  have HH := Lib.hid hHeld
  clear hHeld s_0 s_1 s_2 s_3
  clear hK K
  refine norm_ (a' := ?_) ?_ ?_
  rotate_left
  · show Act.put _ (some 7) _ = _
    simp only [Act.put, List.setIfInBounds_toArray, List.set_cons_zero, List.set_cons_succ, i64_w, i32_w]
    rfl
  refine one_ (i := 5) (N := some 10) #[true, true, true, true, true, true, false, false, false, false, false, false, false, false, false, false, false, false, false, false, false, false, false, false, false, false, false, false, false] rfl rfl (by kernel_rfl) (by decide) (fun K hK => ?_)
  refine goes_ Tryd.func10 (by kernel_rfl) rfl #[.agg h.cs, .agg #[.bool la, .bool lb, .bool lc, .bool ld, .int .u64 lg, .int .u64 lt]] (by rfl) rfl rfl (by simp only [List.map_toArray, List.map_cons, List.map_nil]; rfl) ?_
  with_reducible refine (HA2.out _).mono ?_
  rintro e_ w_9 ⟨rfl, hb⟩
  refine ⟨_, rfl, ?_⟩
  have s_0 := Hb.below (HH.out.1) hb
  have s_1 := blk_below (HH.out.2.1) hb
  have s_2 := Tab.from (HH.out.2.2.1) hb
  have s_3 := TabZ.from (HH.out.2.2.2) hb
  replace K_ga := Lib.hid (K_ga.out.below hb)
  replace K_gt := Lib.hid (blk_below K_gt.out hb)
  have hB_10 := Lib.hid (below_step hB_8.out hb)
  clear HH hb hB_8
  refine hK.out _ _ ⟨s_0, s_1, s_2, s_3⟩ (fun hHeld => ?_)
  have HH := Lib.hid hHeld
  clear hHeld s_0 s_1 s_2 s_3
  clear hK K
  refine norm_ (a' := ?_) ?_ ?_
  rotate_left
  · show Act.put _ (some 10) _ = _
    simp only [Act.put, List.setIfInBounds_toArray, List.set_cons_zero, List.set_cons_succ, i64_w, i32_w]
    rfl
  refine pure_ (i := 6) (N := some 11) (v := ?_) (a' := ?_) #[true, true, true, true, true, true, true, false, false, false, false, false, false, false, false, false, false, false, false, false, false, false, false, false, false, false, false, false, false] rfl rfl (by kernel_rfl) (fun _ _ _ h => h) (Or.inl ⟨by rfl, ?_⟩) ?_ ?_
  rotate_left
  · intro w'
    go_simp
    with_reducible rfl
  rotate_left
  · simp only [Act.put, List.setIfInBounds_toArray, List.set_cons_zero, List.set_cons_succ, i64_w, i32_w]
    rfl
  refine pure_ (i := 7) (N := some 12) (v := ?_) (a' := ?_) #[true, true, true, true, true, true, true, true, false, false, false, false, false, false, false, false, false, false, false, false, false, false, false, false, false, false, false, false, false] rfl rfl (by kernel_rfl) (fun _ _ _ h => h) (Or.inl ⟨by rfl, ?_⟩) ?_ ?_
  rotate_left
  · intro w'
    go_simp
    with_reducible rfl
  rotate_left
  · simp only [Act.put, List.setIfInBounds_toArray, List.set_cons_zero, List.set_cons_succ, i64_w, i32_w]
    rfl
  refine take_ (i := 8) (N := some 13) (v := .agg h.cs) (a' := ?_) #[true, true, true, true, true, true, true, true, true, false, false, false, false, false, false, false, false, false, false, false, false, false, false, false, false, false, false, false, false] rfl rfl (by kernel_rfl) (fun _ _ _ h => h) (Or.inl ⟨by rfl, ?_⟩) HH.out ?_ ?_
  · rintro w' ⟨s0, s1, s2, s3⟩; exact exec_load_hart rfl rfl s0
  rotate_left
  · simp only [Act.put, List.setIfInBounds_toArray, List.set_cons_zero, List.set_cons_succ, i64_w, i32_w]
    rfl
  refine take_ (i := 9) (N := some 14) (v := .agg #[.bool la, .bool lb, .bool lc, .bool ld, .int .u64 lg, .int .u64 lt]) (a' := ?_) #[true, true, true, true, true, true, true, true, true, true, false, false, false, false, false, false, false, false, false, false, false, false, false, false, false, false, false, false, false] rfl rfl (by kernel_rfl) (fun _ _ _ h => h) (Or.inl ⟨by rfl, ?_⟩) HH.out ?_ ?_
  · rintro w' ⟨s0, s1, s2, s3⟩; exact exec_load_blk rfl rfl s1 Tryd.underlying27 rfl (by kernel_rfl)
  rotate_left
  · simp only [Act.put, List.setIfInBounds_toArray, List.set_cons_zero, List.set_cons_succ, i64_w, i32_w]
    rfl
  refine take_ (i := 11) (N := some 16) (v := .agg h.cs) (a' := ?_) #[true, true, true, true, true, true, true, true, true, true, false, true, false, false, false, false, false, false, false, false, false, false, false, false, false, false, false, false, false] rfl rfl (by kernel_rfl) (fun _ _ _ h => h) (Or.inl ⟨by rfl, ?_⟩) HH.out ?_ ?_
  · rintro w' ⟨s0, s1, s2, s3⟩; exact exec_load_hart rfl rfl s0
  rotate_left
  · simp only [Act.put, List.setIfInBounds_toArray, List.set_cons_zero, List.set_cons_succ, i64_w, i32_w]
    rfl
  refine take_ (i := 12) (N := some 17) (v := .agg #[.bool la, .bool lb, .bool lc, .bool ld, .int .u64 lg, .int .u64 lt]) (a' := ?_) #[true, true, true, true, true, true, true, true, true, true, false, true, true, false, false, false, false, false, false, false, false, false, false, false, false, false, false, false, false] rfl rfl (by kernel_rfl) (fun _ _ _ h => h) (Or.inl ⟨by rfl, ?_⟩) HH.out ?_ ?_
  · rintro w' ⟨s0, s1, s2, s3⟩; exact exec_load_blk rfl rfl s1 Tryd.underlying27 rfl (by kernel_rfl)
  rotate_left
  · simp only [Act.put, List.setIfInBounds_toArray, List.set_cons_zero, List.set_cons_succ, i64_w, i32_w]
    rfl
  refine one_ (i := 10) (N := some 15) #[true, true, true, true, true, true, true, true, true, true, true, true, true, false, false, false, false, false, false, false, false, false, false, false, false, false, false, false, false] rfl rfl (by kernel_rfl) (by decide) (fun K hK => ?_)
  refine goes_ Tryd.func7 (by kernel_rfl) rfl #[.agg h.cs, .agg #[.bool la, .bool lb, .bool lc, .bool ld, .int .u64 lg, .int .u64 lt]] (by rfl) rfl rfl (by simp only [List.map_toArray, List.map_cons, List.map_nil]; rfl) ?_
  with_reducible refine (HN.out _ HH.out.2.2.2).mono ?_
  rintro e_ w_11 ⟨rfl, hb⟩
  refine ⟨_, rfl, ?_⟩
  have s_0 := Hb.below (HH.out.1) hb
  have s_1 := blk_below (HH.out.2.1) hb
  have s_2 := Tab.from (HH.out.2.2.1) hb
  have s_3 := TabZ.from (HH.out.2.2.2) hb
  replace K_ga := Lib.hid (K_ga.out.below hb)
  replace K_gt := Lib.hid (blk_below K_gt.out hb)
  have hB_12 := Lib.hid (below_step hB_10.out hb)
  clear HH hb hB_10
  refine hK.out _ _ ⟨s_0, s_1, s_2, s_3⟩ (fun hHeld => ?_)
  have HH := Lib.hid hHeld
  clear hHeld s_0 s_1 s_2 s_3
  clear hK K
  refine norm_ (a' := ?_) ?_ ?_
  rotate_left
  · show Act.put _ (some 15) _ = _
    simp only [Act.put, List.setIfInBounds_toArray, List.set_cons_zero, List.set_cons_succ, i64_w, i32_w]
    rfl
  refine one_ (i := 13) (N := some 18) #[true, true, true, true, true, true, true, true, true, true, true, true, true, true, false, false, false, false, false, false, false, false, false, false, false, false, false, false, false] rfl rfl (by kernel_rfl) (by decide) (fun K hK => ?_)
  refine goes_ Tryd.func11 (by kernel_rfl) rfl #[.agg h.cs, .agg #[.bool la, .bool lb, .bool lc, .bool ld, .int .u64 lg, .int .u64 lt]] (by rfl) rfl rfl (by simp only [List.map_toArray, List.map_cons, List.map_nil]; rfl) ?_
  with_reducible refine (HN2.out _).mono ?_
  rintro e_ w_13 ⟨rfl, hb⟩
  refine ⟨_, rfl, ?_⟩
  have s_0 := Hb.below (HH.out.1) hb
  have s_1 := blk_below (HH.out.2.1) hb
  have s_2 := Tab.from (HH.out.2.2.1) hb
  have s_3 := TabZ.from (HH.out.2.2.2) hb
  replace K_ga := Lib.hid (K_ga.out.below hb)
  replace K_gt := Lib.hid (blk_below K_gt.out hb)
  have hB_14 := Lib.hid (below_step hB_12.out hb)
  clear HH hb hB_12
  refine hK.out _ _ ⟨s_0, s_1, s_2, s_3⟩ (fun hHeld => ?_)
  have HH := Lib.hid hHeld
  clear hHeld s_0 s_1 s_2 s_3
  clear hK K
  refine norm_ (a' := ?_) ?_ ?_
  rotate_left
  · show Act.put _ (some 18) _ = _
    simp only [Act.put, List.setIfInBounds_toArray, List.set_cons_zero, List.set_cons_succ, i64_w, i32_w]
    rfl
  refine pure_ (i := 14) (N := some 19) (v := .bool true) (a' := ?_) #[true, true, true, true, true, true, true, true, true, true, true, true, true, true, true, false, false, false, false, false, false, false, false, false, false, false, false, false, false] rfl rfl (by kernel_rfl) (fun _ _ _ h => h) (Or.inl ⟨by rfl, ?_⟩) ?_ ?_
  · intro w'; exact exec_teq rfl rfl rfl (teq_self _ _ _ _ _ _)
  rotate_left
  · simp only [Act.put, List.setIfInBounds_toArray, List.set_cons_zero, List.set_cons_succ, i64_w, i32_w]
    rfl
  refine pure_ (i := 15) (N := some 20) (v := ?_) (a' := ?_) #[true, true, true, true, true, true, true, true, true, true, true, true, true, true, true, true, false, false, false, false, false, false, false, false, false, false, false, false, false] rfl rfl (by kernel_rfl) (fun _ _ _ h => h) (Or.inl ⟨by rfl, ?_⟩) ?_ ?_
  rotate_left
  · intro w'
    go_simp
    with_reducible rfl
  rotate_left
  · simp only [Act.put, List.setIfInBounds_toArray, List.set_cons_zero, List.set_cons_succ, i64_w, i32_w]
    rfl
  refine pure_ (i := 16) (N := some 21) (v := ?_) (a' := ?_) #[true, true, true, true, true, true, true, true, true, true, true, true, true, true, true, true, true, false, false, false, false, false, false, false, false, false, false, false, false] rfl rfl (by kernel_rfl) (fun _ _ _ h => h) (Or.inl ⟨by rfl, ?_⟩) ?_ ?_
  rotate_left
  · intro w'
    go_simp
    with_reducible rfl
  rotate_left
  · simp only [Act.put, List.setIfInBounds_toArray, List.set_cons_zero, List.set_cons_succ, i64_w, i32_w]
    rfl
  refine take_ (i := 17) (N := some 22) (v := .agg h.cs) (a' := ?_) #[true, true, true, true, true, true, true, true, true, true, true, true, true, true, true, true, true, true, false, false, false, false, false, false, false, false, false, false, false] rfl rfl (by kernel_rfl) (fun _ _ _ h => h) (Or.inl ⟨by rfl, ?_⟩) HH.out ?_ ?_
  · rintro w' ⟨s0, s1, s2, s3⟩; exact exec_load_hart rfl rfl s0
  rotate_left
  · simp only [Act.put, List.setIfInBounds_toArray, List.set_cons_zero, List.set_cons_succ, i64_w, i32_w]
    rfl
  refine take_ (i := 18) (N := some 23) (v := .agg #[.bool la, .bool lb, .bool lc, .bool ld, .int .u64 lg, .int .u64 lt]) (a' := ?_) #[true, true, true, true, true, true, true, true, true, true, true, true, true, true, true, true, true, true, true, false, false, false, false, false, false, false, false, false, false] rfl rfl (by kernel_rfl) (fun _ _ _ h => h) (Or.inl ⟨by rfl, ?_⟩) HH.out ?_ ?_
  · rintro w' ⟨s0, s1, s2, s3⟩; exact exec_load_blk rfl rfl s1 Tryd.underlying27 rfl (by kernel_rfl)
  rotate_left
  · simp only [Act.put, List.setIfInBounds_toArray, List.set_cons_zero, List.set_cons_succ, i64_w, i32_w]
    rfl
  refine take_ (i := 20) (N := some 25) (v := .agg h.cs) (a' := ?_) #[true, true, true, true, true, true, true, true, true, true, true, true, true, true, true, true, true, true, true, false, true, false, false, false, false, false, false, false, false] rfl rfl (by kernel_rfl) (fun _ _ _ h => h) (Or.inl ⟨by rfl, ?_⟩) HH.out ?_ ?_
  · rintro w' ⟨s0, s1, s2, s3⟩; exact exec_load_hart rfl rfl s0
  rotate_left
  · simp only [Act.put, List.setIfInBounds_toArray, List.set_cons_zero, List.set_cons_succ, i64_w, i32_w]
    rfl
  refine take_ (i := 21) (N := some 26) (v := .agg #[.bool la, .bool lb, .bool lc, .bool ld, .int .u64 lg, .int .u64 lt]) (a' := ?_) #[true, true, true, true, true, true, true, true, true, true, true, true, true, true, true, true, true, true, true, false, true, true, false, false, false, false, false, false, false] rfl rfl (by kernel_rfl) (fun _ _ _ h => h) (Or.inl ⟨by rfl, ?_⟩) HH.out ?_ ?_
  · rintro w' ⟨s0, s1, s2, s3⟩; exact exec_load_blk rfl rfl s1 Tryd.underlying27 rfl (by kernel_rfl)
  rotate_left
  · simp only [Act.put, List.setIfInBounds_toArray, List.set_cons_zero, List.set_cons_succ, i64_w, i32_w]
    rfl
  refine one_ (i := 19) (N := some 24) #[true, true, true, true, true, true, true, true, true, true, true, true, true, true, true, true, true, true, true, true, true, true, false, false, false, false, false, false, false] rfl rfl (by kernel_rfl) (by decide) (fun K hK => ?_)
  refine goes_ Tryd.func12 (by kernel_rfl) rfl #[.agg h.cs, .agg #[.bool la, .bool lb, .bool lc, .bool ld, .int .u64 lg, .int .u64 lt]] (by rfl) rfl rfl (by simp only [List.map_toArray, List.map_cons, List.map_nil]; rfl) ?_
  with_reducible refine (HV.out _).mono ?_
  rintro e_ w_15 ⟨rfl, hb⟩
  refine ⟨_, rfl, ?_⟩
  have s_0 := Hb.below (HH.out.1) hb
  have s_1 := blk_below (HH.out.2.1) hb
  have s_2 := Tab.from (HH.out.2.2.1) hb
  have s_3 := TabZ.from (HH.out.2.2.2) hb
  replace K_ga := Lib.hid (K_ga.out.below hb)
  replace K_gt := Lib.hid (blk_below K_gt.out hb)
  have hB_16 := Lib.hid (below_step hB_14.out hb)
  clear HH hb hB_14
  refine hK.out _ _ ⟨s_0, s_1, s_2, s_3⟩ (fun hHeld => ?_)
  have HH := Lib.hid hHeld
  clear hHeld s_0 s_1 s_2 s_3
  clear hK K
  refine norm_ (a' := ?_) ?_ ?_
  rotate_left
  · show Act.put _ (some 24) _ = _
    simp only [Act.put, List.setIfInBounds_toArray, List.set_cons_zero, List.set_cons_succ, i64_w, i32_w]
    rfl
  refine one_ (i := 22) (N := some 27) #[true, true, true, true, true, true, true, true, true, true, true, true, true, true, true, true, true, true, true, true, true, true, true, false, false, false, false, false, false] rfl rfl (by kernel_rfl) (by decide) (fun K hK => ?_)
  refine goes_ Tryd.func13 (by kernel_rfl) rfl #[.agg h.cs, .agg #[.bool la, .bool lb, .bool lc, .bool ld, .int .u64 lg, .int .u64 lt]] (by rfl) rfl rfl (by simp only [List.map_toArray, List.map_cons, List.map_nil]; rfl) ?_
  with_reducible refine (HV2.out _).mono ?_
  rintro e_ w_17 ⟨rfl, hb⟩
  refine ⟨_, rfl, ?_⟩
  have s_0 := Hb.below (HH.out.1) hb
  have s_1 := blk_below (HH.out.2.1) hb
  have s_2 := Tab.from (HH.out.2.2.1) hb
  have s_3 := TabZ.from (HH.out.2.2.2) hb
  replace K_ga := Lib.hid (K_ga.out.below hb)
  replace K_gt := Lib.hid (blk_below K_gt.out hb)
  have hB_18 := Lib.hid (below_step hB_16.out hb)
  clear HH hb hB_16
  refine hK.out _ _ ⟨s_0, s_1, s_2, s_3⟩ (fun hHeld => ?_)
  have HH := Lib.hid hHeld
  clear hHeld s_0 s_1 s_2 s_3
  clear hK K
  refine norm_ (a' := ?_) ?_ ?_
  rotate_left
  · show Act.put _ (some 27) _ = _
    simp only [Act.put, List.setIfInBounds_toArray, List.set_cons_zero, List.set_cons_succ, i64_w, i32_w]
    rfl
  refine pure_ (i := 23) (N := some 28) (v := ?_) (a' := ?_) #[true, true, true, true, true, true, true, true, true, true, true, true, true, true, true, true, true, true, true, true, true, true, true, true, false, false, false, false, false] rfl rfl (by kernel_rfl) (fun _ _ _ h => h) (Or.inl ⟨by rfl, ?_⟩) ?_ ?_
  rotate_left
  · intro w'
    go_simp
    with_reducible rfl
  rotate_left
  · simp only [Act.put, List.setIfInBounds_toArray, List.set_cons_zero, List.set_cons_succ, i64_w, i32_w]
    rfl
  refine pure_ (i := 24) (N := some 29) (v := ?_) (a' := ?_) #[true, true, true, true, true, true, true, true, true, true, true, true, true, true, true, true, true, true, true, true, true, true, true, true, true, false, false, false, false] rfl rfl (by kernel_rfl) (fun _ _ _ h => h) (Or.inl ⟨by rfl, ?_⟩) ?_ ?_
  rotate_left
  · intro w'
    go_simp
    with_reducible rfl
  rotate_left
  · simp only [Act.put, List.setIfInBounds_toArray, List.set_cons_zero, List.set_cons_succ, i64_w, i32_w]
    rfl
  refine pure_ (i := 25) (N := some 30) (v := ?_) (a' := ?_) #[true, true, true, true, true, true, true, true, true, true, true, true, true, true, true, true, true, true, true, true, true, true, true, true, true, true, false, false, false] rfl rfl (by kernel_rfl) (fun _ _ _ h => h) (Or.inl ⟨by rfl, ?_⟩) ?_ ?_
  rotate_left
  · intro w'
    go_simp
    with_reducible rfl
  rotate_left
  · simp only [Act.put, List.setIfInBounds_toArray, List.set_cons_zero, List.set_cons_succ, i64_w, i32_w]
    rfl
  refine one_ (i := 26) (N := some 31) #[true, true, true, true, true, true, true, true, true, true, true, true, true, true, true, true, true, true, true, true, true, true, true, true, true, true, true, false, false] rfl rfl (by kernel_rfl) (by decide) (fun K hK => ?_)
  refine goes_ Tryd.func8 (by kernel_rfl) rfl #[] (by rfl) rfl rfl (by simp) ?_
  with_reducible refine (wakes_c _ HH.out.2.2.1 HH.out.2.2.2).mono ?_
  rintro e_ w_19 ⟨rfl, hb⟩
  refine ⟨_, rfl, ?_⟩
  have s_0 := Hb.below (HH.out.1) hb
  have s_1 := blk_below (HH.out.2.1) hb
  have s_2 := Tab.from (HH.out.2.2.1) hb
  have s_3 := TabZ.from (HH.out.2.2.2) hb
  replace K_ga := Lib.hid (K_ga.out.below hb)
  replace K_gt := Lib.hid (blk_below K_gt.out hb)
  have hB_20 := Lib.hid (below_step hB_18.out hb)
  clear HH hb hB_18
  refine hK.out _ _ ⟨s_0, s_1, s_2, s_3⟩ (fun hHeld => ?_)
  have HH := Lib.hid hHeld
  clear hHeld s_0 s_1 s_2 s_3
  clear hK K
  refine norm_ (a' := ?_) ?_ ?_
  rotate_left
  · show Act.put _ (some 31) _ = _
    simp only [Act.put, List.setIfInBounds_toArray, List.set_cons_zero, List.set_cons_succ, i64_w, i32_w]
    rfl
  refine pure_ (i := 27) (N := some 32) (v := ?_) (a' := ?_) #[true, true, true, true, true, true, true, true, true, true, true, true, true, true, true, true, true, true, true, true, true, true, true, true, true, true, true, true, false] rfl rfl (by kernel_rfl) (fun _ _ _ h => h) (Or.inl ⟨by rfl, ?_⟩) ?_ ?_
  rotate_left
  · intro w'
    go_simp
    with_reducible rfl
  rotate_left
  · simp only [Act.put, List.setIfInBounds_toArray, List.set_cons_zero, List.set_cons_succ, i64_w, i32_w]
    rfl
  refine pure_ (i := 28) (N := some 4) (v := ?_) (a' := ?_) #[true, true, true, true, true, true, true, true, true, true, true, true, true, true, true, true, true, true, true, true, true, true, true, true, true, true, true, true, true] rfl rfl (by kernel_rfl) (fun _ _ _ h => h) (Or.inl ⟨by rfl, ?_⟩) ?_ ?_
  rotate_left
  · intro w'
    go_simp
    with_reducible rfl
  rotate_left
  · simp only [Act.put, List.setIfInBounds_toArray, List.set_cons_zero, List.set_cons_succ, i64_w, i32_w]
    rfl
  refine done_ (by kernel_rfl) ?_
  try clear HH
  go_wp2
  go_ret
  exact ⟨rfl, hB_20.out⟩
end Go.Proofs.YtpbodidpcbodaaaDoor.Hx
namespace Go.Proofs.YtpbodidpcbodaaaDoor.Pure
open Go.RowKit Go.Proofs.YtpbodidpcbodaaaDoor.Hx Go.Proofs.YtpbodidpcbodaaaDoor.Bv Go.Proofs.YtpbodidpcbodaaaDoor.Q
theorem IrqNexts (h : Ht) (la lb lc ld : Bool) (lg lt : Int) (w : World) (hw : h.wf) (wg : (Lit.int .u64 lg).wf = true) (wt : (Lit.int .u64 lt).wf = true) (hT : Tab w ∧ TabZ w) :
    Calls Tryd.prog 5 #[.agg h.cs, .agg #[.bool la, .bool lb, .bool lc, .bool ld, .int .u64 lg, .int .u64 lt]] w fun e w' => e = .returned (.bool true) ∧ Below w.heap.size w w' :=
  nexts_c h hw la lb lc ld lg lt (u64_in wg) w hT.1 hT.2
end Go.Proofs.YtpbodidpcbodaaaDoor.Pure
