/- Where the Lean function of a Go function gives a value, the Go call returns that value and changes nothing that was there: for every input. (By a program of this session, and by hand.) -/
import Derived.Test.YtlopmcakfalkpaaDoorQx0
import Derived.Test.YtlopmcakfalkpaaDoorQx1
namespace Go.Proofs.YtlopmcakfalkpaaDoor.Q
open Go.RowKit Go.Proofs.YtlopmcakfalkpaaDoorW.PrintWords Go.Proofs.YtlopmcakfalkpaaDoorW.PrintLast Go.Proofs.YtlopmcakfalkpaaDoorW.PrintMore
attribute [local go_sem] max2_int min2_int max_two min_two max_three min_three max_four min_four   -- for this text's walks alone
set_option linter.unusedVariables false
set_option linter.unusedSimpArgs false

/-! ### mezzanineref12_Pending: function 12 -/
mutual
def mezzanineref12_Pending.j0 : Nat → Int → Int → Int → Int → Int → Int → Int → Int → Int → Int → Int → Int → Int → Int → Int → Int → Int → Int → Int → Int → Int → Int → Int → Int → Int → Int → Int → Int → Int → Int → Int → Int → Int → Int → Int → Bool → Bool → Bool → Int → Int → Int → Int → Int → Int → Int → Int → Int → Int → Int → Int → Int → Int → Int → Int → Int → Int → Int → Int → Int → Int → Int → Int → Int → Int → Int → Int → Int → Int → Int → Int → Int → Int → Int → Int → Int → Int → Int → Int → Bool → Bool → Bool → Bool → Int → Int → Option (Int)
  | 0, _, _, _, _, _, _, _, _, _, _, _, _, _, _, _, _, _, _, _, _, _, _, _, _, _, _, _, _, _, _, _, _, _, _, _, _, _, _, _, _, _, _, _, _, _, _, _, _, _, _, _, _, _, _, _, _, _, _, _, _, _, _, _, _, _, _, _, _, _, _, _, _, _, _, _, _, _, _, _, _, _, _, _, _ => none
  | k + 1, x5, x104000, x104001, x104002, x104003, x104004, x104005, x104006, x104007, x104008, x104009, x104010, x104011, x104012, x104013, x104014, x104015, x104016, x104017, x104018, x104019, x104020, x104021, x104022, x104023, x104024, x104025, x104026, x104027, x104028, x104029, x104030, x104031, x104032, x104033, x104034, x104035, x104036, x104037, x104038, x104039, x104040, x104041, x104042, x104043, x104044, x104045, x104046, x104047, x104048, x104049, x104050, x104051, x104052, x104053, x104054, x104055, x104056, x104057, x104058, x104059, x104060, x104061, x104062, x104063, x104064, x104065, x104066, x104067, x104068, x104069, x104070, x104071, x104072, x104073, x104074, x104075, x104076, x105000, x105001, x105002, x105003, x105004, x105005 => if x105001 = true then (mezzanineref12_Pending.j1 k (Go.bits .or .u64 x5 128) x104000 x104001 x104002 x104003 x104004 x104005 x104006 x104007 x104008 x104009 x104010 x104011 x104012 x104013 x104014 x104015 x104016 x104017 x104018 x104019 x104020 x104021 x104022 x104023 x104024 x104025 x104026 x104027 x104028 x104029 x104030 x104031 x104032 x104033 x104034 x104035 x104036 x104037 x104038 x104039 x104040 x104041 x104042 x104043 x104044 x104045 x104046 x104047 x104048 x104049 x104050 x104051 x104052 x104053 x104054 x104055 x104056 x104057 x104058 x104059 x104060 x104061 x104062 x104063 x104064 x104065 x104066 x104067 x104068 x104069 x104070 x104071 x104072 x104073 x104074 x104075 x104076 x105000 x105001 x105002 x105003 x105004 x105005) else (mezzanineref12_Pending.j1 k x5 x104000 x104001 x104002 x104003 x104004 x104005 x104006 x104007 x104008 x104009 x104010 x104011 x104012 x104013 x104014 x104015 x104016 x104017 x104018 x104019 x104020 x104021 x104022 x104023 x104024 x104025 x104026 x104027 x104028 x104029 x104030 x104031 x104032 x104033 x104034 x104035 x104036 x104037 x104038 x104039 x104040 x104041 x104042 x104043 x104044 x104045 x104046 x104047 x104048 x104049 x104050 x104051 x104052 x104053 x104054 x104055 x104056 x104057 x104058 x104059 x104060 x104061 x104062 x104063 x104064 x104065 x104066 x104067 x104068 x104069 x104070 x104071 x104072 x104073 x104074 x104075 x104076 x105000 x105001 x105002 x105003 x105004 x105005)
def mezzanineref12_Pending.j1 : Nat → Int → Int → Int → Int → Int → Int → Int → Int → Int → Int → Int → Int → Int → Int → Int → Int → Int → Int → Int → Int → Int → Int → Int → Int → Int → Int → Int → Int → Int → Int → Int → Int → Int → Int → Int → Bool → Bool → Bool → Int → Int → Int → Int → Int → Int → Int → Int → Int → Int → Int → Int → Int → Int → Int → Int → Int → Int → Int → Int → Int → Int → Int → Int → Int → Int → Int → Int → Int → Int → Int → Int → Int → Int → Int → Int → Int → Int → Int → Int → Bool → Bool → Bool → Bool → Int → Int → Option (Int)
  | 0, _, _, _, _, _, _, _, _, _, _, _, _, _, _, _, _, _, _, _, _, _, _, _, _, _, _, _, _, _, _, _, _, _, _, _, _, _, _, _, _, _, _, _, _, _, _, _, _, _, _, _, _, _, _, _, _, _, _, _, _, _, _, _, _, _, _, _, _, _, _, _, _, _, _, _, _, _, _, _, _, _, _, _, _ => none
  | k + 1, x5, x104000, x104001, x104002, x104003, x104004, x104005, x104006, x104007, x104008, x104009, x104010, x104011, x104012, x104013, x104014, x104015, x104016, x104017, x104018, x104019, x104020, x104021, x104022, x104023, x104024, x104025, x104026, x104027, x104028, x104029, x104030, x104031, x104032, x104033, x104034, x104035, x104036, x104037, x104038, x104039, x104040, x104041, x104042, x104043, x104044, x104045, x104046, x104047, x104048, x104049, x104050, x104051, x104052, x104053, x104054, x104055, x104056, x104057, x104058, x104059, x104060, x104061, x104062, x104063, x104064, x104065, x104066, x104067, x104068, x104069, x104070, x104071, x104072, x104073, x104074, x104075, x104076, x105000, x105001, x105002, x105003, x105004, x105005 => if x105002 = true then (mezzanineref12_Pending.j2 k (Go.bits .or .u64 x5 2048) x104000 x104001 x104002 x104003 x104004 x104005 x104006 x104007 x104008 x104009 x104010 x104011 x104012 x104013 x104014 x104015 x104016 x104017 x104018 x104019 x104020 x104021 x104022 x104023 x104024 x104025 x104026 x104027 x104028 x104029 x104030 x104031 x104032 x104033 x104034 x104035 x104036 x104037 x104038 x104039 x104040 x104041 x104042 x104043 x104044 x104045 x104046 x104047 x104048 x104049 x104050 x104051 x104052 x104053 x104054 x104055 x104056 x104057 x104058 x104059 x104060 x104061 x104062 x104063 x104064 x104065 x104066 x104067 x104068 x104069 x104070 x104071 x104072 x104073 x104074 x104075 x104076 x105000 x105001 x105002 x105003 x105004 x105005) else (mezzanineref12_Pending.j2 k x5 x104000 x104001 x104002 x104003 x104004 x104005 x104006 x104007 x104008 x104009 x104010 x104011 x104012 x104013 x104014 x104015 x104016 x104017 x104018 x104019 x104020 x104021 x104022 x104023 x104024 x104025 x104026 x104027 x104028 x104029 x104030 x104031 x104032 x104033 x104034 x104035 x104036 x104037 x104038 x104039 x104040 x104041 x104042 x104043 x104044 x104045 x104046 x104047 x104048 x104049 x104050 x104051 x104052 x104053 x104054 x104055 x104056 x104057 x104058 x104059 x104060 x104061 x104062 x104063 x104064 x104065 x104066 x104067 x104068 x104069 x104070 x104071 x104072 x104073 x104074 x104075 x104076 x105000 x105001 x105002 x105003 x105004 x105005)
def mezzanineref12_Pending.j2 : Nat → Int → Int → Int → Int → Int → Int → Int → Int → Int → Int → Int → Int → Int → Int → Int → Int → Int → Int → Int → Int → Int → Int → Int → Int → Int → Int → Int → Int → Int → Int → Int → Int → Int → Int → Int → Bool → Bool → Bool → Int → Int → Int → Int → Int → Int → Int → Int → Int → Int → Int → Int → Int → Int → Int → Int → Int → Int → Int → Int → Int → Int → Int → Int → Int → Int → Int → Int → Int → Int → Int → Int → Int → Int → Int → Int → Int → Int → Int → Int → Bool → Bool → Bool → Bool → Int → Int → Option (Int)
  | 0, _, _, _, _, _, _, _, _, _, _, _, _, _, _, _, _, _, _, _, _, _, _, _, _, _, _, _, _, _, _, _, _, _, _, _, _, _, _, _, _, _, _, _, _, _, _, _, _, _, _, _, _, _, _, _, _, _, _, _, _, _, _, _, _, _, _, _, _, _, _, _, _, _, _, _, _, _, _, _, _, _, _, _, _ => none
  | k + 1, x5, x104000, x104001, x104002, x104003, x104004, x104005, x104006, x104007, x104008, x104009, x104010, x104011, x104012, x104013, x104014, x104015, x104016, x104017, x104018, x104019, x104020, x104021, x104022, x104023, x104024, x104025, x104026, x104027, x104028, x104029, x104030, x104031, x104032, x104033, x104034, x104035, x104036, x104037, x104038, x104039, x104040, x104041, x104042, x104043, x104044, x104045, x104046, x104047, x104048, x104049, x104050, x104051, x104052, x104053, x104054, x104055, x104056, x104057, x104058, x104059, x104060, x104061, x104062, x104063, x104064, x104065, x104066, x104067, x104068, x104069, x104070, x104071, x104072, x104073, x104074, x104075, x104076, x105000, x105001, x105002, x105003, x105004, x105005 => if x105003 = true then (mezzanineref12_Pending.j3 k (Go.bits .or .u64 x5 512) x104000 x104001 x104002 x104003 x104004 x104005 x104006 x104007 x104008 x104009 x104010 x104011 x104012 x104013 x104014 x104015 x104016 x104017 x104018 x104019 x104020 x104021 x104022 x104023 x104024 x104025 x104026 x104027 x104028 x104029 x104030 x104031 x104032 x104033 x104034 x104035 x104036 x104037 x104038 x104039 x104040 x104041 x104042 x104043 x104044 x104045 x104046 x104047 x104048 x104049 x104050 x104051 x104052 x104053 x104054 x104055 x104056 x104057 x104058 x104059 x104060 x104061 x104062 x104063 x104064 x104065 x104066 x104067 x104068 x104069 x104070 x104071 x104072 x104073 x104074 x104075 x104076 x105000 x105001 x105002 x105003 x105004 x105005) else (mezzanineref12_Pending.j3 k x5 x104000 x104001 x104002 x104003 x104004 x104005 x104006 x104007 x104008 x104009 x104010 x104011 x104012 x104013 x104014 x104015 x104016 x104017 x104018 x104019 x104020 x104021 x104022 x104023 x104024 x104025 x104026 x104027 x104028 x104029 x104030 x104031 x104032 x104033 x104034 x104035 x104036 x104037 x104038 x104039 x104040 x104041 x104042 x104043 x104044 x104045 x104046 x104047 x104048 x104049 x104050 x104051 x104052 x104053 x104054 x104055 x104056 x104057 x104058 x104059 x104060 x104061 x104062 x104063 x104064 x104065 x104066 x104067 x104068 x104069 x104070 x104071 x104072 x104073 x104074 x104075 x104076 x105000 x105001 x105002 x105003 x105004 x105005)
def mezzanineref12_Pending.j3 : Nat → Int → Int → Int → Int → Int → Int → Int → Int → Int → Int → Int → Int → Int → Int → Int → Int → Int → Int → Int → Int → Int → Int → Int → Int → Int → Int → Int → Int → Int → Int → Int → Int → Int → Int → Int → Bool → Bool → Bool → Int → Int → Int → Int → Int → Int → Int → Int → Int → Int → Int → Int → Int → Int → Int → Int → Int → Int → Int → Int → Int → Int → Int → Int → Int → Int → Int → Int → Int → Int → Int → Int → Int → Int → Int → Int → Int → Int → Int → Int → Bool → Bool → Bool → Bool → Int → Int → Option (Int)
  | 0, _, _, _, _, _, _, _, _, _, _, _, _, _, _, _, _, _, _, _, _, _, _, _, _, _, _, _, _, _, _, _, _, _, _, _, _, _, _, _, _, _, _, _, _, _, _, _, _, _, _, _, _, _, _, _, _, _, _, _, _, _, _, _, _, _, _, _, _, _, _, _, _, _, _, _, _, _, _, _, _, _, _, _, _ => none
  | k + 1, x5, x104000, x104001, x104002, x104003, x104004, x104005, x104006, x104007, x104008, x104009, x104010, x104011, x104012, x104013, x104014, x104015, x104016, x104017, x104018, x104019, x104020, x104021, x104022, x104023, x104024, x104025, x104026, x104027, x104028, x104029, x104030, x104031, x104032, x104033, x104034, x104035, x104036, x104037, x104038, x104039, x104040, x104041, x104042, x104043, x104044, x104045, x104046, x104047, x104048, x104049, x104050, x104051, x104052, x104053, x104054, x104055, x104056, x104057, x104058, x104059, x104060, x104061, x104062, x104063, x104064, x104065, x104066, x104067, x104068, x104069, x104070, x104071, x104072, x104073, x104074, x104075, x104076, x105000, x105001, x105002, x105003, x105004, x105005 => (mezzanineref12_bit.f x104058 12).bind fun t105 => (if t105 = true then ((mezzanineref12_bit.f x105004 1).bind fun t106 => (mezzanineref12_Pending.j4 k x5 t106 x104000 x104001 x104002 x104003 x104004 x104005 x104006 x104007 x104008 x104009 x104010 x104011 x104012 x104013 x104014 x104015 x104016 x104017 x104018 x104019 x104020 x104021 x104022 x104023 x104024 x104025 x104026 x104027 x104028 x104029 x104030 x104031 x104032 x104033 x104034 x104035 x104036 x104037 x104038 x104039 x104040 x104041 x104042 x104043 x104044 x104045 x104046 x104047 x104048 x104049 x104050 x104051 x104052 x104053 x104054 x104055 x104056 x104057 x104058 x104059 x104060 x104061 x104062 x104063 x104064 x104065 x104066 x104067 x104068 x104069 x104070 x104071 x104072 x104073 x104074 x104075 x104076 x105000 x105001 x105002 x105003 x105004 x105005)) else (mezzanineref12_Pending.j4 k x5 false x104000 x104001 x104002 x104003 x104004 x104005 x104006 x104007 x104008 x104009 x104010 x104011 x104012 x104013 x104014 x104015 x104016 x104017 x104018 x104019 x104020 x104021 x104022 x104023 x104024 x104025 x104026 x104027 x104028 x104029 x104030 x104031 x104032 x104033 x104034 x104035 x104036 x104037 x104038 x104039 x104040 x104041 x104042 x104043 x104044 x104045 x104046 x104047 x104048 x104049 x104050 x104051 x104052 x104053 x104054 x104055 x104056 x104057 x104058 x104059 x104060 x104061 x104062 x104063 x104064 x104065 x104066 x104067 x104068 x104069 x104070 x104071 x104072 x104073 x104074 x104075 x104076 x105000 x105001 x105002 x105003 x105004 x105005))
def mezzanineref12_Pending.j4 : Nat → Int → Bool → Int → Int → Int → Int → Int → Int → Int → Int → Int → Int → Int → Int → Int → Int → Int → Int → Int → Int → Int → Int → Int → Int → Int → Int → Int → Int → Int → Int → Int → Int → Int → Int → Int → Int → Bool → Bool → Bool → Int → Int → Int → Int → Int → Int → Int → Int → Int → Int → Int → Int → Int → Int → Int → Int → Int → Int → Int → Int → Int → Int → Int → Int → Int → Int → Int → Int → Int → Int → Int → Int → Int → Int → Int → Int → Int → Int → Int → Int → Bool → Bool → Bool → Bool → Int → Int → Option (Int)
  | 0, _, _, _, _, _, _, _, _, _, _, _, _, _, _, _, _, _, _, _, _, _, _, _, _, _, _, _, _, _, _, _, _, _, _, _, _, _, _, _, _, _, _, _, _, _, _, _, _, _, _, _, _, _, _, _, _, _, _, _, _, _, _, _, _, _, _, _, _, _, _, _, _, _, _, _, _, _, _, _, _, _, _, _, _, _ => none
  | k + 1, x5, x34, x104000, x104001, x104002, x104003, x104004, x104005, x104006, x104007, x104008, x104009, x104010, x104011, x104012, x104013, x104014, x104015, x104016, x104017, x104018, x104019, x104020, x104021, x104022, x104023, x104024, x104025, x104026, x104027, x104028, x104029, x104030, x104031, x104032, x104033, x104034, x104035, x104036, x104037, x104038, x104039, x104040, x104041, x104042, x104043, x104044, x104045, x104046, x104047, x104048, x104049, x104050, x104051, x104052, x104053, x104054, x104055, x104056, x104057, x104058, x104059, x104060, x104061, x104062, x104063, x104064, x104065, x104066, x104067, x104068, x104069, x104070, x104071, x104072, x104073, x104074, x104075, x104076, x105000, x105001, x105002, x105003, x105004, x105005 => if x34 = true then (if (Go.bits .and .u64 x105004 x104063) = 0 then (some (Go.bits .or .u64 x5 1024)) else (some (Go.bits .or .u64 (Go.bits .or .u64 x5 1024) 4096))) else (if (Go.bits .and .u64 x105004 x104063) = 0 then (some x5) else (some (Go.bits .or .u64 x5 4096)))
end
def mezzanineref12_Pending.f (k : Nat) (a0_0 : Int) (a0_1 : Int) (a0_2 : Int) (a0_3 : Int) (a0_4 : Int) (a0_5 : Int) (a0_6 : Int) (a0_7 : Int) (a0_8 : Int) (a0_9 : Int) (a0_10 : Int) (a0_11 : Int) (a0_12 : Int) (a0_13 : Int) (a0_14 : Int) (a0_15 : Int) (a0_16 : Int) (a0_17 : Int) (a0_18 : Int) (a0_19 : Int) (a0_20 : Int) (a0_21 : Int) (a0_22 : Int) (a0_23 : Int) (a0_24 : Int) (a0_25 : Int) (a0_26 : Int) (a0_27 : Int) (a0_28 : Int) (a0_29 : Int) (a0_30 : Int) (a0_31 : Int) (a0_32 : Int) (a0_33 : Int) (a0_34 : Bool) (a0_35 : Bool) (a0_36 : Bool) (a0_37 : Int) (a0_38 : Int) (a0_39 : Int) (a0_40 : Int) (a0_41 : Int) (a0_42 : Int) (a0_43 : Int) (a0_44 : Int) (a0_45 : Int) (a0_46 : Int) (a0_47 : Int) (a0_48 : Int) (a0_49 : Int) (a0_50 : Int) (a0_51 : Int) (a0_52 : Int) (a0_53 : Int) (a0_54 : Int) (a0_55 : Int) (a0_56 : Int) (a0_57 : Int) (a0_58 : Int) (a0_59 : Int) (a0_60 : Int) (a0_61 : Int) (a0_62 : Int) (a0_63 : Int) (a0_64 : Int) (a0_65 : Int) (a0_66 : Int) (a0_67 : Int) (a0_68 : Int) (a0_69 : Int) (a0_70 : Int) (a0_71 : Int) (a0_72 : Int) (a0_73 : Int) (a0_74 : Int) (a0_75 : Int) (a0_76 : Int) (a1_0 : Bool) (a1_1 : Bool) (a1_2 : Bool) (a1_3 : Bool) (a1_4 : Int) (a1_5 : Int) : Option (Int) := if a1_0 = true then (mezzanineref12_Pending.j0 k (Go.bits .or .u64 (Go.bits .or .u64 a0_42 a0_61) 8) a0_0 a0_1 a0_2 a0_3 a0_4 a0_5 a0_6 a0_7 a0_8 a0_9 a0_10 a0_11 a0_12 a0_13 a0_14 a0_15 a0_16 a0_17 a0_18 a0_19 a0_20 a0_21 a0_22 a0_23 a0_24 a0_25 a0_26 a0_27 a0_28 a0_29 a0_30 a0_31 a0_32 a0_33 a0_34 a0_35 a0_36 a0_37 a0_38 a0_39 a0_40 a0_41 a0_42 a0_43 a0_44 a0_45 a0_46 a0_47 a0_48 a0_49 a0_50 a0_51 a0_52 a0_53 a0_54 a0_55 a0_56 a0_57 a0_58 a0_59 a0_60 a0_61 a0_62 a0_63 a0_64 a0_65 a0_66 a0_67 a0_68 a0_69 a0_70 a0_71 a0_72 a0_73 a0_74 a0_75 a0_76 a1_0 a1_1 a1_2 a1_3 a1_4 a1_5) else (mezzanineref12_Pending.j0 k (Go.bits .or .u64 a0_42 a0_61) a0_0 a0_1 a0_2 a0_3 a0_4 a0_5 a0_6 a0_7 a0_8 a0_9 a0_10 a0_11 a0_12 a0_13 a0_14 a0_15 a0_16 a0_17 a0_18 a0_19 a0_20 a0_21 a0_22 a0_23 a0_24 a0_25 a0_26 a0_27 a0_28 a0_29 a0_30 a0_31 a0_32 a0_33 a0_34 a0_35 a0_36 a0_37 a0_38 a0_39 a0_40 a0_41 a0_42 a0_43 a0_44 a0_45 a0_46 a0_47 a0_48 a0_49 a0_50 a0_51 a0_52 a0_53 a0_54 a0_55 a0_56 a0_57 a0_58 a0_59 a0_60 a0_61 a0_62 a0_63 a0_64 a0_65 a0_66 a0_67 a0_68 a0_69 a0_70 a0_71 a0_72 a0_73 a0_74 a0_75 a0_76 a1_0 a1_1 a1_2 a1_3 a1_4 a1_5)
theorem mezzanineref12_Pending.mono_l : ∀ k, (∀ y0 y1 y2 y3 y4 y5 y6 y7 y8 y9 y10 y11 y12 y13 y14 y15 y16 y17 y18 y19 y20 y21 y22 y23 y24 y25 y26 y27 y28 y29 y30 y31 y32 y33 y34 y35 y36 y37 y38 y39 y40 y41 y42 y43 y44 y45 y46 y47 y48 y49 y50 y51 y52 y53 y54 y55 y56 y57 y58 y59 y60 y61 y62 y63 y64 y65 y66 y67 y68 y69 y70 y71 y72 y73 y74 y75 y76 y77 y78 y79 y80 y81 y82 y83, LeO (mezzanineref12_Pending.j0 k y0 y1 y2 y3 y4 y5 y6 y7 y8 y9 y10 y11 y12 y13 y14 y15 y16 y17 y18 y19 y20 y21 y22 y23 y24 y25 y26 y27 y28 y29 y30 y31 y32 y33 y34 y35 y36 y37 y38 y39 y40 y41 y42 y43 y44 y45 y46 y47 y48 y49 y50 y51 y52 y53 y54 y55 y56 y57 y58 y59 y60 y61 y62 y63 y64 y65 y66 y67 y68 y69 y70 y71 y72 y73 y74 y75 y76 y77 y78 y79 y80 y81 y82 y83) (mezzanineref12_Pending.j0 (k + 1) y0 y1 y2 y3 y4 y5 y6 y7 y8 y9 y10 y11 y12 y13 y14 y15 y16 y17 y18 y19 y20 y21 y22 y23 y24 y25 y26 y27 y28 y29 y30 y31 y32 y33 y34 y35 y36 y37 y38 y39 y40 y41 y42 y43 y44 y45 y46 y47 y48 y49 y50 y51 y52 y53 y54 y55 y56 y57 y58 y59 y60 y61 y62 y63 y64 y65 y66 y67 y68 y69 y70 y71 y72 y73 y74 y75 y76 y77 y78 y79 y80 y81 y82 y83)) ∧ (∀ y0 y1 y2 y3 y4 y5 y6 y7 y8 y9 y10 y11 y12 y13 y14 y15 y16 y17 y18 y19 y20 y21 y22 y23 y24 y25 y26 y27 y28 y29 y30 y31 y32 y33 y34 y35 y36 y37 y38 y39 y40 y41 y42 y43 y44 y45 y46 y47 y48 y49 y50 y51 y52 y53 y54 y55 y56 y57 y58 y59 y60 y61 y62 y63 y64 y65 y66 y67 y68 y69 y70 y71 y72 y73 y74 y75 y76 y77 y78 y79 y80 y81 y82 y83, LeO (mezzanineref12_Pending.j1 k y0 y1 y2 y3 y4 y5 y6 y7 y8 y9 y10 y11 y12 y13 y14 y15 y16 y17 y18 y19 y20 y21 y22 y23 y24 y25 y26 y27 y28 y29 y30 y31 y32 y33 y34 y35 y36 y37 y38 y39 y40 y41 y42 y43 y44 y45 y46 y47 y48 y49 y50 y51 y52 y53 y54 y55 y56 y57 y58 y59 y60 y61 y62 y63 y64 y65 y66 y67 y68 y69 y70 y71 y72 y73 y74 y75 y76 y77 y78 y79 y80 y81 y82 y83) (mezzanineref12_Pending.j1 (k + 1) y0 y1 y2 y3 y4 y5 y6 y7 y8 y9 y10 y11 y12 y13 y14 y15 y16 y17 y18 y19 y20 y21 y22 y23 y24 y25 y26 y27 y28 y29 y30 y31 y32 y33 y34 y35 y36 y37 y38 y39 y40 y41 y42 y43 y44 y45 y46 y47 y48 y49 y50 y51 y52 y53 y54 y55 y56 y57 y58 y59 y60 y61 y62 y63 y64 y65 y66 y67 y68 y69 y70 y71 y72 y73 y74 y75 y76 y77 y78 y79 y80 y81 y82 y83)) ∧ (∀ y0 y1 y2 y3 y4 y5 y6 y7 y8 y9 y10 y11 y12 y13 y14 y15 y16 y17 y18 y19 y20 y21 y22 y23 y24 y25 y26 y27 y28 y29 y30 y31 y32 y33 y34 y35 y36 y37 y38 y39 y40 y41 y42 y43 y44 y45 y46 y47 y48 y49 y50 y51 y52 y53 y54 y55 y56 y57 y58 y59 y60 y61 y62 y63 y64 y65 y66 y67 y68 y69 y70 y71 y72 y73 y74 y75 y76 y77 y78 y79 y80 y81 y82 y83, LeO (mezzanineref12_Pending.j2 k y0 y1 y2 y3 y4 y5 y6 y7 y8 y9 y10 y11 y12 y13 y14 y15 y16 y17 y18 y19 y20 y21 y22 y23 y24 y25 y26 y27 y28 y29 y30 y31 y32 y33 y34 y35 y36 y37 y38 y39 y40 y41 y42 y43 y44 y45 y46 y47 y48 y49 y50 y51 y52 y53 y54 y55 y56 y57 y58 y59 y60 y61 y62 y63 y64 y65 y66 y67 y68 y69 y70 y71 y72 y73 y74 y75 y76 y77 y78 y79 y80 y81 y82 y83) (mezzanineref12_Pending.j2 (k + 1) y0 y1 y2 y3 y4 y5 y6 y7 y8 y9 y10 y11 y12 y13 y14 y15 y16 y17 y18 y19 y20 y21 y22 y23 y24 y25 y26 y27 y28 y29 y30 y31 y32 y33 y34 y35 y36 y37 y38 y39 y40 y41 y42 y43 y44 y45 y46 y47 y48 y49 y50 y51 y52 y53 y54 y55 y56 y57 y58 y59 y60 y61 y62 y63 y64 y65 y66 y67 y68 y69 y70 y71 y72 y73 y74 y75 y76 y77 y78 y79 y80 y81 y82 y83)) ∧ (∀ y0 y1 y2 y3 y4 y5 y6 y7 y8 y9 y10 y11 y12 y13 y14 y15 y16 y17 y18 y19 y20 y21 y22 y23 y24 y25 y26 y27 y28 y29 y30 y31 y32 y33 y34 y35 y36 y37 y38 y39 y40 y41 y42 y43 y44 y45 y46 y47 y48 y49 y50 y51 y52 y53 y54 y55 y56 y57 y58 y59 y60 y61 y62 y63 y64 y65 y66 y67 y68 y69 y70 y71 y72 y73 y74 y75 y76 y77 y78 y79 y80 y81 y82 y83, LeO (mezzanineref12_Pending.j3 k y0 y1 y2 y3 y4 y5 y6 y7 y8 y9 y10 y11 y12 y13 y14 y15 y16 y17 y18 y19 y20 y21 y22 y23 y24 y25 y26 y27 y28 y29 y30 y31 y32 y33 y34 y35 y36 y37 y38 y39 y40 y41 y42 y43 y44 y45 y46 y47 y48 y49 y50 y51 y52 y53 y54 y55 y56 y57 y58 y59 y60 y61 y62 y63 y64 y65 y66 y67 y68 y69 y70 y71 y72 y73 y74 y75 y76 y77 y78 y79 y80 y81 y82 y83) (mezzanineref12_Pending.j3 (k + 1) y0 y1 y2 y3 y4 y5 y6 y7 y8 y9 y10 y11 y12 y13 y14 y15 y16 y17 y18 y19 y20 y21 y22 y23 y24 y25 y26 y27 y28 y29 y30 y31 y32 y33 y34 y35 y36 y37 y38 y39 y40 y41 y42 y43 y44 y45 y46 y47 y48 y49 y50 y51 y52 y53 y54 y55 y56 y57 y58 y59 y60 y61 y62 y63 y64 y65 y66 y67 y68 y69 y70 y71 y72 y73 y74 y75 y76 y77 y78 y79 y80 y81 y82 y83)) ∧ (∀ y0 y1 y2 y3 y4 y5 y6 y7 y8 y9 y10 y11 y12 y13 y14 y15 y16 y17 y18 y19 y20 y21 y22 y23 y24 y25 y26 y27 y28 y29 y30 y31 y32 y33 y34 y35 y36 y37 y38 y39 y40 y41 y42 y43 y44 y45 y46 y47 y48 y49 y50 y51 y52 y53 y54 y55 y56 y57 y58 y59 y60 y61 y62 y63 y64 y65 y66 y67 y68 y69 y70 y71 y72 y73 y74 y75 y76 y77 y78 y79 y80 y81 y82 y83 y84, LeO (mezzanineref12_Pending.j4 k y0 y1 y2 y3 y4 y5 y6 y7 y8 y9 y10 y11 y12 y13 y14 y15 y16 y17 y18 y19 y20 y21 y22 y23 y24 y25 y26 y27 y28 y29 y30 y31 y32 y33 y34 y35 y36 y37 y38 y39 y40 y41 y42 y43 y44 y45 y46 y47 y48 y49 y50 y51 y52 y53 y54 y55 y56 y57 y58 y59 y60 y61 y62 y63 y64 y65 y66 y67 y68 y69 y70 y71 y72 y73 y74 y75 y76 y77 y78 y79 y80 y81 y82 y83 y84) (mezzanineref12_Pending.j4 (k + 1) y0 y1 y2 y3 y4 y5 y6 y7 y8 y9 y10 y11 y12 y13 y14 y15 y16 y17 y18 y19 y20 y21 y22 y23 y24 y25 y26 y27 y28 y29 y30 y31 y32 y33 y34 y35 y36 y37 y38 y39 y40 y41 y42 y43 y44 y45 y46 y47 y48 y49 y50 y51 y52 y53 y54 y55 y56 y57 y58 y59 y60 y61 y62 y63 y64 y65 y66 y67 y68 y69 y70 y71 y72 y73 y74 y75 y76 y77 y78 y79 y80 y81 y82 y83 y84))
  | 0 => ⟨fun _ _ _ _ _ _ _ _ _ _ _ _ _ _ _ _ _ _ _ _ _ _ _ _ _ _ _ _ _ _ _ _ _ _ _ _ _ _ _ _ _ _ _ _ _ _ _ _ _ _ _ _ _ _ _ _ _ _ _ _ _ _ _ _ _ _ _ _ _ _ _ _ _ _ _ _ _ _ _ _ _ _ _ _ r h => by simp [mezzanineref12_Pending.j0] at h, fun _ _ _ _ _ _ _ _ _ _ _ _ _ _ _ _ _ _ _ _ _ _ _ _ _ _ _ _ _ _ _ _ _ _ _ _ _ _ _ _ _ _ _ _ _ _ _ _ _ _ _ _ _ _ _ _ _ _ _ _ _ _ _ _ _ _ _ _ _ _ _ _ _ _ _ _ _ _ _ _ _ _ _ _ r h => by simp [mezzanineref12_Pending.j1] at h, fun _ _ _ _ _ _ _ _ _ _ _ _ _ _ _ _ _ _ _ _ _ _ _ _ _ _ _ _ _ _ _ _ _ _ _ _ _ _ _ _ _ _ _ _ _ _ _ _ _ _ _ _ _ _ _ _ _ _ _ _ _ _ _ _ _ _ _ _ _ _ _ _ _ _ _ _ _ _ _ _ _ _ _ _ r h => by simp [mezzanineref12_Pending.j2] at h, fun _ _ _ _ _ _ _ _ _ _ _ _ _ _ _ _ _ _ _ _ _ _ _ _ _ _ _ _ _ _ _ _ _ _ _ _ _ _ _ _ _ _ _ _ _ _ _ _ _ _ _ _ _ _ _ _ _ _ _ _ _ _ _ _ _ _ _ _ _ _ _ _ _ _ _ _ _ _ _ _ _ _ _ _ r h => by simp [mezzanineref12_Pending.j3] at h, fun _ _ _ _ _ _ _ _ _ _ _ _ _ _ _ _ _ _ _ _ _ _ _ _ _ _ _ _ _ _ _ _ _ _ _ _ _ _ _ _ _ _ _ _ _ _ _ _ _ _ _ _ _ _ _ _ _ _ _ _ _ _ _ _ _ _ _ _ _ _ _ _ _ _ _ _ _ _ _ _ _ _ _ _ _ r h => by simp [mezzanineref12_Pending.j4] at h⟩
  | k + 1 => by
    obtain ⟨ih0, ih1, ih2, ih3, ih4⟩ := mezzanineref12_Pending.mono_l k
    refine ⟨?_, ?_, ?_, ?_, ?_⟩
    · intro y0 y1 y2 y3 y4 y5 y6 y7 y8 y9 y10 y11 y12 y13 y14 y15 y16 y17 y18 y19 y20 y21 y22 y23 y24 y25 y26 y27 y28 y29 y30 y31 y32 y33 y34 y35 y36 y37 y38 y39 y40 y41 y42 y43 y44 y45 y46 y47 y48 y49 y50 y51 y52 y53 y54 y55 y56 y57 y58 y59 y60 y61 y62 y63 y64 y65 y66 y67 y68 y69 y70 y71 y72 y73 y74 y75 y76 y77 y78 y79 y80 y81 y82 y83
      unfold mezzanineref12_Pending.j0
      repeat' first
      | (with_reducible exact ih0 _ _ _ _ _ _ _ _ _ _ _ _ _ _ _ _ _ _ _ _ _ _ _ _ _ _ _ _ _ _ _ _ _ _ _ _ _ _ _ _ _ _ _ _ _ _ _ _ _ _ _ _ _ _ _ _ _ _ _ _ _ _ _ _ _ _ _ _ _ _ _ _ _ _ _ _ _ _ _ _ _ _ _ _)
      | (with_reducible exact ih1 _ _ _ _ _ _ _ _ _ _ _ _ _ _ _ _ _ _ _ _ _ _ _ _ _ _ _ _ _ _ _ _ _ _ _ _ _ _ _ _ _ _ _ _ _ _ _ _ _ _ _ _ _ _ _ _ _ _ _ _ _ _ _ _ _ _ _ _ _ _ _ _ _ _ _ _ _ _ _ _ _ _ _ _)
      | (with_reducible exact ih2 _ _ _ _ _ _ _ _ _ _ _ _ _ _ _ _ _ _ _ _ _ _ _ _ _ _ _ _ _ _ _ _ _ _ _ _ _ _ _ _ _ _ _ _ _ _ _ _ _ _ _ _ _ _ _ _ _ _ _ _ _ _ _ _ _ _ _ _ _ _ _ _ _ _ _ _ _ _ _ _ _ _ _ _)
      | (with_reducible exact ih3 _ _ _ _ _ _ _ _ _ _ _ _ _ _ _ _ _ _ _ _ _ _ _ _ _ _ _ _ _ _ _ _ _ _ _ _ _ _ _ _ _ _ _ _ _ _ _ _ _ _ _ _ _ _ _ _ _ _ _ _ _ _ _ _ _ _ _ _ _ _ _ _ _ _ _ _ _ _ _ _ _ _ _ _)
      | (with_reducible exact ih4 _ _ _ _ _ _ _ _ _ _ _ _ _ _ _ _ _ _ _ _ _ _ _ _ _ _ _ _ _ _ _ _ _ _ _ _ _ _ _ _ _ _ _ _ _ _ _ _ _ _ _ _ _ _ _ _ _ _ _ _ _ _ _ _ _ _ _ _ _ _ _ _ _ _ _ _ _ _ _ _ _ _ _ _ _)
      | (with_reducible exact LeO.refl _)
      | (with_reducible exact LeO.none _)
      | (with_reducible refine LeO.ite ?_ ?_)
      | (with_reducible refine LeO.bind ?_ (fun _ => ?_))
      | exact ih0 _ _ _ _ _ _ _ _ _ _ _ _ _ _ _ _ _ _ _ _ _ _ _ _ _ _ _ _ _ _ _ _ _ _ _ _ _ _ _ _ _ _ _ _ _ _ _ _ _ _ _ _ _ _ _ _ _ _ _ _ _ _ _ _ _ _ _ _ _ _ _ _ _ _ _ _ _ _ _ _ _ _ _ _
      | exact ih1 _ _ _ _ _ _ _ _ _ _ _ _ _ _ _ _ _ _ _ _ _ _ _ _ _ _ _ _ _ _ _ _ _ _ _ _ _ _ _ _ _ _ _ _ _ _ _ _ _ _ _ _ _ _ _ _ _ _ _ _ _ _ _ _ _ _ _ _ _ _ _ _ _ _ _ _ _ _ _ _ _ _ _ _
      | exact ih2 _ _ _ _ _ _ _ _ _ _ _ _ _ _ _ _ _ _ _ _ _ _ _ _ _ _ _ _ _ _ _ _ _ _ _ _ _ _ _ _ _ _ _ _ _ _ _ _ _ _ _ _ _ _ _ _ _ _ _ _ _ _ _ _ _ _ _ _ _ _ _ _ _ _ _ _ _ _ _ _ _ _ _ _
      | exact ih3 _ _ _ _ _ _ _ _ _ _ _ _ _ _ _ _ _ _ _ _ _ _ _ _ _ _ _ _ _ _ _ _ _ _ _ _ _ _ _ _ _ _ _ _ _ _ _ _ _ _ _ _ _ _ _ _ _ _ _ _ _ _ _ _ _ _ _ _ _ _ _ _ _ _ _ _ _ _ _ _ _ _ _ _
      | exact ih4 _ _ _ _ _ _ _ _ _ _ _ _ _ _ _ _ _ _ _ _ _ _ _ _ _ _ _ _ _ _ _ _ _ _ _ _ _ _ _ _ _ _ _ _ _ _ _ _ _ _ _ _ _ _ _ _ _ _ _ _ _ _ _ _ _ _ _ _ _ _ _ _ _ _ _ _ _ _ _ _ _ _ _ _ _
      | exact LeO.none _
      | refine LeO.ite ?_ ?_
      | refine LeO.bind ?_ (fun _ => ?_)
    · intro y0 y1 y2 y3 y4 y5 y6 y7 y8 y9 y10 y11 y12 y13 y14 y15 y16 y17 y18 y19 y20 y21 y22 y23 y24 y25 y26 y27 y28 y29 y30 y31 y32 y33 y34 y35 y36 y37 y38 y39 y40 y41 y42 y43 y44 y45 y46 y47 y48 y49 y50 y51 y52 y53 y54 y55 y56 y57 y58 y59 y60 y61 y62 y63 y64 y65 y66 y67 y68 y69 y70 y71 y72 y73 y74 y75 y76 y77 y78 y79 y80 y81 y82 y83
      unfold mezzanineref12_Pending.j1
      repeat' first
      | (with_reducible exact ih0 _ _ _ _ _ _ _ _ _ _ _ _ _ _ _ _ _ _ _ _ _ _ _ _ _ _ _ _ _ _ _ _ _ _ _ _ _ _ _ _ _ _ _ _ _ _ _ _ _ _ _ _ _ _ _ _ _ _ _ _ _ _ _ _ _ _ _ _ _ _ _ _ _ _ _ _ _ _ _ _ _ _ _ _)
      | (with_reducible exact ih1 _ _ _ _ _ _ _ _ _ _ _ _ _ _ _ _ _ _ _ _ _ _ _ _ _ _ _ _ _ _ _ _ _ _ _ _ _ _ _ _ _ _ _ _ _ _ _ _ _ _ _ _ _ _ _ _ _ _ _ _ _ _ _ _ _ _ _ _ _ _ _ _ _ _ _ _ _ _ _ _ _ _ _ _)
      | (with_reducible exact ih2 _ _ _ _ _ _ _ _ _ _ _ _ _ _ _ _ _ _ _ _ _ _ _ _ _ _ _ _ _ _ _ _ _ _ _ _ _ _ _ _ _ _ _ _ _ _ _ _ _ _ _ _ _ _ _ _ _ _ _ _ _ _ _ _ _ _ _ _ _ _ _ _ _ _ _ _ _ _ _ _ _ _ _ _)
      | (with_reducible exact ih3 _ _ _ _ _ _ _ _ _ _ _ _ _ _ _ _ _ _ _ _ _ _ _ _ _ _ _ _ _ _ _ _ _ _ _ _ _ _ _ _ _ _ _ _ _ _ _ _ _ _ _ _ _ _ _ _ _ _ _ _ _ _ _ _ _ _ _ _ _ _ _ _ _ _ _ _ _ _ _ _ _ _ _ _)
      | (with_reducible exact ih4 _ _ _ _ _ _ _ _ _ _ _ _ _ _ _ _ _ _ _ _ _ _ _ _ _ _ _ _ _ _ _ _ _ _ _ _ _ _ _ _ _ _ _ _ _ _ _ _ _ _ _ _ _ _ _ _ _ _ _ _ _ _ _ _ _ _ _ _ _ _ _ _ _ _ _ _ _ _ _ _ _ _ _ _ _)
      | (with_reducible exact LeO.refl _)
      | (with_reducible exact LeO.none _)
      | (with_reducible refine LeO.ite ?_ ?_)
      | (with_reducible refine LeO.bind ?_ (fun _ => ?_))
      | exact ih0 _ _ _ _ _ _ _ _ _ _ _ _ _ _ _ _ _ _ _ _ _ _ _ _ _ _ _ _ _ _ _ _ _ _ _ _ _ _ _ _ _ _ _ _ _ _ _ _ _ _ _ _ _ _ _ _ _ _ _ _ _ _ _ _ _ _ _ _ _ _ _ _ _ _ _ _ _ _ _ _ _ _ _ _
      | exact ih1 _ _ _ _ _ _ _ _ _ _ _ _ _ _ _ _ _ _ _ _ _ _ _ _ _ _ _ _ _ _ _ _ _ _ _ _ _ _ _ _ _ _ _ _ _ _ _ _ _ _ _ _ _ _ _ _ _ _ _ _ _ _ _ _ _ _ _ _ _ _ _ _ _ _ _ _ _ _ _ _ _ _ _ _
      | exact ih2 _ _ _ _ _ _ _ _ _ _ _ _ _ _ _ _ _ _ _ _ _ _ _ _ _ _ _ _ _ _ _ _ _ _ _ _ _ _ _ _ _ _ _ _ _ _ _ _ _ _ _ _ _ _ _ _ _ _ _ _ _ _ _ _ _ _ _ _ _ _ _ _ _ _ _ _ _ _ _ _ _ _ _ _
      | exact ih3 _ _ _ _ _ _ _ _ _ _ _ _ _ _ _ _ _ _ _ _ _ _ _ _ _ _ _ _ _ _ _ _ _ _ _ _ _ _ _ _ _ _ _ _ _ _ _ _ _ _ _ _ _ _ _ _ _ _ _ _ _ _ _ _ _ _ _ _ _ _ _ _ _ _ _ _ _ _ _ _ _ _ _ _
      | exact ih4 _ _ _ _ _ _ _ _ _ _ _ _ _ _ _ _ _ _ _ _ _ _ _ _ _ _ _ _ _ _ _ _ _ _ _ _ _ _ _ _ _ _ _ _ _ _ _ _ _ _ _ _ _ _ _ _ _ _ _ _ _ _ _ _ _ _ _ _ _ _ _ _ _ _ _ _ _ _ _ _ _ _ _ _ _
      | exact LeO.none _
      | refine LeO.ite ?_ ?_
      | refine LeO.bind ?_ (fun _ => ?_)
    · intro y0 y1 y2 y3 y4 y5 y6 y7 y8 y9 y10 y11 y12 y13 y14 y15 y16 y17 y18 y19 y20 y21 y22 y23 y24 y25 y26 y27 y28 y29 y30 y31 y32 y33 y34 y35 y36 y37 y38 y39 y40 y41 y42 y43 y44 y45 y46 y47 y48 y49 y50 y51 y52 y53 y54 y55 y56 y57 y58 y59 y60 y61 y62 y63 y64 y65 y66 y67 y68 y69 y70 y71 y72 y73 y74 y75 y76 y77 y78 y79 y80 y81 y82 y83
      unfold mezzanineref12_Pending.j2
      repeat' first
      | (with_reducible exact ih0 _ _ _ _ _ _ _ _ _ _ _ _ _ _ _ _ _ _ _ _ _ _ _ _ _ _ _ _ _ _ _ _ _ _ _ _ _ _ _ _ _ _ _ _ _ _ _ _ _ _ _ _ _ _ _ _ _ _ _ _ _ _ _ _ _ _ _ _ _ _ _ _ _ _ _ _ _ _ _ _ _ _ _ _)
      | (with_reducible exact ih1 _ _ _ _ _ _ _ _ _ _ _ _ _ _ _ _ _ _ _ _ _ _ _ _ _ _ _ _ _ _ _ _ _ _ _ _ _ _ _ _ _ _ _ _ _ _ _ _ _ _ _ _ _ _ _ _ _ _ _ _ _ _ _ _ _ _ _ _ _ _ _ _ _ _ _ _ _ _ _ _ _ _ _ _)
      | (with_reducible exact ih2 _ _ _ _ _ _ _ _ _ _ _ _ _ _ _ _ _ _ _ _ _ _ _ _ _ _ _ _ _ _ _ _ _ _ _ _ _ _ _ _ _ _ _ _ _ _ _ _ _ _ _ _ _ _ _ _ _ _ _ _ _ _ _ _ _ _ _ _ _ _ _ _ _ _ _ _ _ _ _ _ _ _ _ _)
      | (with_reducible exact ih3 _ _ _ _ _ _ _ _ _ _ _ _ _ _ _ _ _ _ _ _ _ _ _ _ _ _ _ _ _ _ _ _ _ _ _ _ _ _ _ _ _ _ _ _ _ _ _ _ _ _ _ _ _ _ _ _ _ _ _ _ _ _ _ _ _ _ _ _ _ _ _ _ _ _ _ _ _ _ _ _ _ _ _ _)
      | (with_reducible exact ih4 _ _ _ _ _ _ _ _ _ _ _ _ _ _ _ _ _ _ _ _ _ _ _ _ _ _ _ _ _ _ _ _ _ _ _ _ _ _ _ _ _ _ _ _ _ _ _ _ _ _ _ _ _ _ _ _ _ _ _ _ _ _ _ _ _ _ _ _ _ _ _ _ _ _ _ _ _ _ _ _ _ _ _ _ _)
      | (with_reducible exact LeO.refl _)
      | (with_reducible exact LeO.none _)
      | (with_reducible refine LeO.ite ?_ ?_)
      | (with_reducible refine LeO.bind ?_ (fun _ => ?_))
      | exact ih0 _ _ _ _ _ _ _ _ _ _ _ _ _ _ _ _ _ _ _ _ _ _ _ _ _ _ _ _ _ _ _ _ _ _ _ _ _ _ _ _ _ _ _ _ _ _ _ _ _ _ _ _ _ _ _ _ _ _ _ _ _ _ _ _ _ _ _ _ _ _ _ _ _ _ _ _ _ _ _ _ _ _ _ _
      | exact ih1 _ _ _ _ _ _ _ _ _ _ _ _ _ _ _ _ _ _ _ _ _ _ _ _ _ _ _ _ _ _ _ _ _ _ _ _ _ _ _ _ _ _ _ _ _ _ _ _ _ _ _ _ _ _ _ _ _ _ _ _ _ _ _ _ _ _ _ _ _ _ _ _ _ _ _ _ _ _ _ _ _ _ _ _
      | exact ih2 _ _ _ _ _ _ _ _ _ _ _ _ _ _ _ _ _ _ _ _ _ _ _ _ _ _ _ _ _ _ _ _ _ _ _ _ _ _ _ _ _ _ _ _ _ _ _ _ _ _ _ _ _ _ _ _ _ _ _ _ _ _ _ _ _ _ _ _ _ _ _ _ _ _ _ _ _ _ _ _ _ _ _ _
      | exact ih3 _ _ _ _ _ _ _ _ _ _ _ _ _ _ _ _ _ _ _ _ _ _ _ _ _ _ _ _ _ _ _ _ _ _ _ _ _ _ _ _ _ _ _ _ _ _ _ _ _ _ _ _ _ _ _ _ _ _ _ _ _ _ _ _ _ _ _ _ _ _ _ _ _ _ _ _ _ _ _ _ _ _ _ _
      | exact ih4 _ _ _ _ _ _ _ _ _ _ _ _ _ _ _ _ _ _ _ _ _ _ _ _ _ _ _ _ _ _ _ _ _ _ _ _ _ _ _ _ _ _ _ _ _ _ _ _ _ _ _ _ _ _ _ _ _ _ _ _ _ _ _ _ _ _ _ _ _ _ _ _ _ _ _ _ _ _ _ _ _ _ _ _ _
      | exact LeO.none _
      | refine LeO.ite ?_ ?_
      | refine LeO.bind ?_ (fun _ => ?_)
    · intro y0 y1 y2 y3 y4 y5 y6 y7 y8 y9 y10 y11 y12 y13 y14 y15 y16 y17 y18 y19 y20 y21 y22 y23 y24 y25 y26 y27 y28 y29 y30 y31 y32 y33 y34 y35 y36 y37 y38 y39 y40 y41 y42 y43 y44 y45 y46 y47 y48 y49 y50 y51 y52 y53 y54 y55 y56 y57 y58 y59 y60 y61 y62 y63 y64 y65 y66 y67 y68 y69 y70 y71 y72 y73 y74 y75 y76 y77 y78 y79 y80 y81 y82 y83
      unfold mezzanineref12_Pending.j3
      repeat' first
      | (with_reducible exact ih0 _ _ _ _ _ _ _ _ _ _ _ _ _ _ _ _ _ _ _ _ _ _ _ _ _ _ _ _ _ _ _ _ _ _ _ _ _ _ _ _ _ _ _ _ _ _ _ _ _ _ _ _ _ _ _ _ _ _ _ _ _ _ _ _ _ _ _ _ _ _ _ _ _ _ _ _ _ _ _ _ _ _ _ _)
      | (with_reducible exact ih1 _ _ _ _ _ _ _ _ _ _ _ _ _ _ _ _ _ _ _ _ _ _ _ _ _ _ _ _ _ _ _ _ _ _ _ _ _ _ _ _ _ _ _ _ _ _ _ _ _ _ _ _ _ _ _ _ _ _ _ _ _ _ _ _ _ _ _ _ _ _ _ _ _ _ _ _ _ _ _ _ _ _ _ _)
      | (with_reducible exact ih2 _ _ _ _ _ _ _ _ _ _ _ _ _ _ _ _ _ _ _ _ _ _ _ _ _ _ _ _ _ _ _ _ _ _ _ _ _ _ _ _ _ _ _ _ _ _ _ _ _ _ _ _ _ _ _ _ _ _ _ _ _ _ _ _ _ _ _ _ _ _ _ _ _ _ _ _ _ _ _ _ _ _ _ _)
      | (with_reducible exact ih3 _ _ _ _ _ _ _ _ _ _ _ _ _ _ _ _ _ _ _ _ _ _ _ _ _ _ _ _ _ _ _ _ _ _ _ _ _ _ _ _ _ _ _ _ _ _ _ _ _ _ _ _ _ _ _ _ _ _ _ _ _ _ _ _ _ _ _ _ _ _ _ _ _ _ _ _ _ _ _ _ _ _ _ _)
      | (with_reducible exact ih4 _ _ _ _ _ _ _ _ _ _ _ _ _ _ _ _ _ _ _ _ _ _ _ _ _ _ _ _ _ _ _ _ _ _ _ _ _ _ _ _ _ _ _ _ _ _ _ _ _ _ _ _ _ _ _ _ _ _ _ _ _ _ _ _ _ _ _ _ _ _ _ _ _ _ _ _ _ _ _ _ _ _ _ _ _)
      | (with_reducible exact LeO.refl _)
      | (with_reducible exact LeO.none _)
      | (with_reducible refine LeO.ite ?_ ?_)
      | (with_reducible refine LeO.bind ?_ (fun _ => ?_))
      | exact ih0 _ _ _ _ _ _ _ _ _ _ _ _ _ _ _ _ _ _ _ _ _ _ _ _ _ _ _ _ _ _ _ _ _ _ _ _ _ _ _ _ _ _ _ _ _ _ _ _ _ _ _ _ _ _ _ _ _ _ _ _ _ _ _ _ _ _ _ _ _ _ _ _ _ _ _ _ _ _ _ _ _ _ _ _
      | exact ih1 _ _ _ _ _ _ _ _ _ _ _ _ _ _ _ _ _ _ _ _ _ _ _ _ _ _ _ _ _ _ _ _ _ _ _ _ _ _ _ _ _ _ _ _ _ _ _ _ _ _ _ _ _ _ _ _ _ _ _ _ _ _ _ _ _ _ _ _ _ _ _ _ _ _ _ _ _ _ _ _ _ _ _ _
      | exact ih2 _ _ _ _ _ _ _ _ _ _ _ _ _ _ _ _ _ _ _ _ _ _ _ _ _ _ _ _ _ _ _ _ _ _ _ _ _ _ _ _ _ _ _ _ _ _ _ _ _ _ _ _ _ _ _ _ _ _ _ _ _ _ _ _ _ _ _ _ _ _ _ _ _ _ _ _ _ _ _ _ _ _ _ _
      | exact ih3 _ _ _ _ _ _ _ _ _ _ _ _ _ _ _ _ _ _ _ _ _ _ _ _ _ _ _ _ _ _ _ _ _ _ _ _ _ _ _ _ _ _ _ _ _ _ _ _ _ _ _ _ _ _ _ _ _ _ _ _ _ _ _ _ _ _ _ _ _ _ _ _ _ _ _ _ _ _ _ _ _ _ _ _
      | exact ih4 _ _ _ _ _ _ _ _ _ _ _ _ _ _ _ _ _ _ _ _ _ _ _ _ _ _ _ _ _ _ _ _ _ _ _ _ _ _ _ _ _ _ _ _ _ _ _ _ _ _ _ _ _ _ _ _ _ _ _ _ _ _ _ _ _ _ _ _ _ _ _ _ _ _ _ _ _ _ _ _ _ _ _ _ _
      | exact LeO.none _
      | refine LeO.ite ?_ ?_
      | refine LeO.bind ?_ (fun _ => ?_)
    · intro y0 y1 y2 y3 y4 y5 y6 y7 y8 y9 y10 y11 y12 y13 y14 y15 y16 y17 y18 y19 y20 y21 y22 y23 y24 y25 y26 y27 y28 y29 y30 y31 y32 y33 y34 y35 y36 y37 y38 y39 y40 y41 y42 y43 y44 y45 y46 y47 y48 y49 y50 y51 y52 y53 y54 y55 y56 y57 y58 y59 y60 y61 y62 y63 y64 y65 y66 y67 y68 y69 y70 y71 y72 y73 y74 y75 y76 y77 y78 y79 y80 y81 y82 y83 y84
      unfold mezzanineref12_Pending.j4
      repeat' first
      | (with_reducible exact ih0 _ _ _ _ _ _ _ _ _ _ _ _ _ _ _ _ _ _ _ _ _ _ _ _ _ _ _ _ _ _ _ _ _ _ _ _ _ _ _ _ _ _ _ _ _ _ _ _ _ _ _ _ _ _ _ _ _ _ _ _ _ _ _ _ _ _ _ _ _ _ _ _ _ _ _ _ _ _ _ _ _ _ _ _)
      | (with_reducible exact ih1 _ _ _ _ _ _ _ _ _ _ _ _ _ _ _ _ _ _ _ _ _ _ _ _ _ _ _ _ _ _ _ _ _ _ _ _ _ _ _ _ _ _ _ _ _ _ _ _ _ _ _ _ _ _ _ _ _ _ _ _ _ _ _ _ _ _ _ _ _ _ _ _ _ _ _ _ _ _ _ _ _ _ _ _)
      | (with_reducible exact ih2 _ _ _ _ _ _ _ _ _ _ _ _ _ _ _ _ _ _ _ _ _ _ _ _ _ _ _ _ _ _ _ _ _ _ _ _ _ _ _ _ _ _ _ _ _ _ _ _ _ _ _ _ _ _ _ _ _ _ _ _ _ _ _ _ _ _ _ _ _ _ _ _ _ _ _ _ _ _ _ _ _ _ _ _)
      | (with_reducible exact ih3 _ _ _ _ _ _ _ _ _ _ _ _ _ _ _ _ _ _ _ _ _ _ _ _ _ _ _ _ _ _ _ _ _ _ _ _ _ _ _ _ _ _ _ _ _ _ _ _ _ _ _ _ _ _ _ _ _ _ _ _ _ _ _ _ _ _ _ _ _ _ _ _ _ _ _ _ _ _ _ _ _ _ _ _)
      | (with_reducible exact ih4 _ _ _ _ _ _ _ _ _ _ _ _ _ _ _ _ _ _ _ _ _ _ _ _ _ _ _ _ _ _ _ _ _ _ _ _ _ _ _ _ _ _ _ _ _ _ _ _ _ _ _ _ _ _ _ _ _ _ _ _ _ _ _ _ _ _ _ _ _ _ _ _ _ _ _ _ _ _ _ _ _ _ _ _ _)
      | (with_reducible exact LeO.refl _)
      | (with_reducible exact LeO.none _)
      | (with_reducible refine LeO.ite ?_ ?_)
      | (with_reducible refine LeO.bind ?_ (fun _ => ?_))
      | exact ih0 _ _ _ _ _ _ _ _ _ _ _ _ _ _ _ _ _ _ _ _ _ _ _ _ _ _ _ _ _ _ _ _ _ _ _ _ _ _ _ _ _ _ _ _ _ _ _ _ _ _ _ _ _ _ _ _ _ _ _ _ _ _ _ _ _ _ _ _ _ _ _ _ _ _ _ _ _ _ _ _ _ _ _ _
      | exact ih1 _ _ _ _ _ _ _ _ _ _ _ _ _ _ _ _ _ _ _ _ _ _ _ _ _ _ _ _ _ _ _ _ _ _ _ _ _ _ _ _ _ _ _ _ _ _ _ _ _ _ _ _ _ _ _ _ _ _ _ _ _ _ _ _ _ _ _ _ _ _ _ _ _ _ _ _ _ _ _ _ _ _ _ _
      | exact ih2 _ _ _ _ _ _ _ _ _ _ _ _ _ _ _ _ _ _ _ _ _ _ _ _ _ _ _ _ _ _ _ _ _ _ _ _ _ _ _ _ _ _ _ _ _ _ _ _ _ _ _ _ _ _ _ _ _ _ _ _ _ _ _ _ _ _ _ _ _ _ _ _ _ _ _ _ _ _ _ _ _ _ _ _
      | exact ih3 _ _ _ _ _ _ _ _ _ _ _ _ _ _ _ _ _ _ _ _ _ _ _ _ _ _ _ _ _ _ _ _ _ _ _ _ _ _ _ _ _ _ _ _ _ _ _ _ _ _ _ _ _ _ _ _ _ _ _ _ _ _ _ _ _ _ _ _ _ _ _ _ _ _ _ _ _ _ _ _ _ _ _ _
      | exact ih4 _ _ _ _ _ _ _ _ _ _ _ _ _ _ _ _ _ _ _ _ _ _ _ _ _ _ _ _ _ _ _ _ _ _ _ _ _ _ _ _ _ _ _ _ _ _ _ _ _ _ _ _ _ _ _ _ _ _ _ _ _ _ _ _ _ _ _ _ _ _ _ _ _ _ _ _ _ _ _ _ _ _ _ _ _
      | exact LeO.none _
      | refine LeO.ite ?_ ?_
      | refine LeO.bind ?_ (fun _ => ?_)
theorem mezzanineref12_Pending.mono : ∀ a0 a1 a2 a3 a4 a5 a6 a7 a8 a9 a10 a11 a12 a13 a14 a15 a16 a17 a18 a19 a20 a21 a22 a23 a24 a25 a26 a27 a28 a29 a30 a31 a32 a33 a34 a35 a36 a37 a38 a39 a40 a41 a42 a43 a44 a45 a46 a47 a48 a49 a50 a51 a52 a53 a54 a55 a56 a57 a58 a59 a60 a61 a62 a63 a64 a65 a66 a67 a68 a69 a70 a71 a72 a73 a74 a75 a76 a77 a78 a79 a80 a81 a82 k, LeO (mezzanineref12_Pending.f k a0 a1 a2 a3 a4 a5 a6 a7 a8 a9 a10 a11 a12 a13 a14 a15 a16 a17 a18 a19 a20 a21 a22 a23 a24 a25 a26 a27 a28 a29 a30 a31 a32 a33 a34 a35 a36 a37 a38 a39 a40 a41 a42 a43 a44 a45 a46 a47 a48 a49 a50 a51 a52 a53 a54 a55 a56 a57 a58 a59 a60 a61 a62 a63 a64 a65 a66 a67 a68 a69 a70 a71 a72 a73 a74 a75 a76 a77 a78 a79 a80 a81 a82) (mezzanineref12_Pending.f (k + 1) a0 a1 a2 a3 a4 a5 a6 a7 a8 a9 a10 a11 a12 a13 a14 a15 a16 a17 a18 a19 a20 a21 a22 a23 a24 a25 a26 a27 a28 a29 a30 a31 a32 a33 a34 a35 a36 a37 a38 a39 a40 a41 a42 a43 a44 a45 a46 a47 a48 a49 a50 a51 a52 a53 a54 a55 a56 a57 a58 a59 a60 a61 a62 a63 a64 a65 a66 a67 a68 a69 a70 a71 a72 a73 a74 a75 a76 a77 a78 a79 a80 a81 a82) := by
  intro a0 a1 a2 a3 a4 a5 a6 a7 a8 a9 a10 a11 a12 a13 a14 a15 a16 a17 a18 a19 a20 a21 a22 a23 a24 a25 a26 a27 a28 a29 a30 a31 a32 a33 a34 a35 a36 a37 a38 a39 a40 a41 a42 a43 a44 a45 a46 a47 a48 a49 a50 a51 a52 a53 a54 a55 a56 a57 a58 a59 a60 a61 a62 a63 a64 a65 a66 a67 a68 a69 a70 a71 a72 a73 a74 a75 a76 a77 a78 a79 a80 a81 a82 k
  obtain ⟨ih0, ih1, ih2, ih3, ih4⟩ := mezzanineref12_Pending.mono_l k
  unfold mezzanineref12_Pending.f
  repeat' first
      | (with_reducible exact ih0 _ _ _ _ _ _ _ _ _ _ _ _ _ _ _ _ _ _ _ _ _ _ _ _ _ _ _ _ _ _ _ _ _ _ _ _ _ _ _ _ _ _ _ _ _ _ _ _ _ _ _ _ _ _ _ _ _ _ _ _ _ _ _ _ _ _ _ _ _ _ _ _ _ _ _ _ _ _ _ _ _ _ _ _)
      | (with_reducible exact ih1 _ _ _ _ _ _ _ _ _ _ _ _ _ _ _ _ _ _ _ _ _ _ _ _ _ _ _ _ _ _ _ _ _ _ _ _ _ _ _ _ _ _ _ _ _ _ _ _ _ _ _ _ _ _ _ _ _ _ _ _ _ _ _ _ _ _ _ _ _ _ _ _ _ _ _ _ _ _ _ _ _ _ _ _)
      | (with_reducible exact ih2 _ _ _ _ _ _ _ _ _ _ _ _ _ _ _ _ _ _ _ _ _ _ _ _ _ _ _ _ _ _ _ _ _ _ _ _ _ _ _ _ _ _ _ _ _ _ _ _ _ _ _ _ _ _ _ _ _ _ _ _ _ _ _ _ _ _ _ _ _ _ _ _ _ _ _ _ _ _ _ _ _ _ _ _)
      | (with_reducible exact ih3 _ _ _ _ _ _ _ _ _ _ _ _ _ _ _ _ _ _ _ _ _ _ _ _ _ _ _ _ _ _ _ _ _ _ _ _ _ _ _ _ _ _ _ _ _ _ _ _ _ _ _ _ _ _ _ _ _ _ _ _ _ _ _ _ _ _ _ _ _ _ _ _ _ _ _ _ _ _ _ _ _ _ _ _)
      | (with_reducible exact ih4 _ _ _ _ _ _ _ _ _ _ _ _ _ _ _ _ _ _ _ _ _ _ _ _ _ _ _ _ _ _ _ _ _ _ _ _ _ _ _ _ _ _ _ _ _ _ _ _ _ _ _ _ _ _ _ _ _ _ _ _ _ _ _ _ _ _ _ _ _ _ _ _ _ _ _ _ _ _ _ _ _ _ _ _ _)
      | (with_reducible exact LeO.refl _)
      | (with_reducible exact LeO.none _)
      | (with_reducible refine LeO.ite ?_ ?_)
      | (with_reducible refine LeO.bind ?_ (fun _ => ?_))
      | exact ih0 _ _ _ _ _ _ _ _ _ _ _ _ _ _ _ _ _ _ _ _ _ _ _ _ _ _ _ _ _ _ _ _ _ _ _ _ _ _ _ _ _ _ _ _ _ _ _ _ _ _ _ _ _ _ _ _ _ _ _ _ _ _ _ _ _ _ _ _ _ _ _ _ _ _ _ _ _ _ _ _ _ _ _ _
      | exact ih1 _ _ _ _ _ _ _ _ _ _ _ _ _ _ _ _ _ _ _ _ _ _ _ _ _ _ _ _ _ _ _ _ _ _ _ _ _ _ _ _ _ _ _ _ _ _ _ _ _ _ _ _ _ _ _ _ _ _ _ _ _ _ _ _ _ _ _ _ _ _ _ _ _ _ _ _ _ _ _ _ _ _ _ _
      | exact ih2 _ _ _ _ _ _ _ _ _ _ _ _ _ _ _ _ _ _ _ _ _ _ _ _ _ _ _ _ _ _ _ _ _ _ _ _ _ _ _ _ _ _ _ _ _ _ _ _ _ _ _ _ _ _ _ _ _ _ _ _ _ _ _ _ _ _ _ _ _ _ _ _ _ _ _ _ _ _ _ _ _ _ _ _
      | exact ih3 _ _ _ _ _ _ _ _ _ _ _ _ _ _ _ _ _ _ _ _ _ _ _ _ _ _ _ _ _ _ _ _ _ _ _ _ _ _ _ _ _ _ _ _ _ _ _ _ _ _ _ _ _ _ _ _ _ _ _ _ _ _ _ _ _ _ _ _ _ _ _ _ _ _ _ _ _ _ _ _ _ _ _ _
      | exact ih4 _ _ _ _ _ _ _ _ _ _ _ _ _ _ _ _ _ _ _ _ _ _ _ _ _ _ _ _ _ _ _ _ _ _ _ _ _ _ _ _ _ _ _ _ _ _ _ _ _ _ _ _ _ _ _ _ _ _ _ _ _ _ _ _ _ _ _ _ _ _ _ _ _ _ _ _ _ _ _ _ _ _ _ _ _
      | exact LeO.none _
      | refine LeO.ite ?_ ?_
      | refine LeO.bind ?_ (fun _ => ?_)
set_option maxHeartbeats 8000000 in
set_option maxRecDepth 100000 in
theorem mezzanineref12_Pending.calls (k : Nat) (a0_0 : Int) (a0_1 : Int) (a0_2 : Int) (a0_3 : Int) (a0_4 : Int) (a0_5 : Int) (a0_6 : Int) (a0_7 : Int) (a0_8 : Int) (a0_9 : Int) (a0_10 : Int) (a0_11 : Int) (a0_12 : Int) (a0_13 : Int) (a0_14 : Int) (a0_15 : Int) (a0_16 : Int) (a0_17 : Int) (a0_18 : Int) (a0_19 : Int) (a0_20 : Int) (a0_21 : Int) (a0_22 : Int) (a0_23 : Int) (a0_24 : Int) (a0_25 : Int) (a0_26 : Int) (a0_27 : Int) (a0_28 : Int) (a0_29 : Int) (a0_30 : Int) (a0_31 : Int) (a0_32 : Int) (a0_33 : Int) (a0_34 : Bool) (a0_35 : Bool) (a0_36 : Bool) (a0_37 : Int) (a0_38 : Int) (a0_39 : Int) (a0_40 : Int) (a0_41 : Int) (a0_42 : Int) (a0_43 : Int) (a0_44 : Int) (a0_45 : Int) (a0_46 : Int) (a0_47 : Int) (a0_48 : Int) (a0_49 : Int) (a0_50 : Int) (a0_51 : Int) (a0_52 : Int) (a0_53 : Int) (a0_54 : Int) (a0_55 : Int) (a0_56 : Int) (a0_57 : Int) (a0_58 : Int) (a0_59 : Int) (a0_60 : Int) (a0_61 : Int) (a0_62 : Int) (a0_63 : Int) (a0_64 : Int) (a0_65 : Int) (a0_66 : Int) (a0_67 : Int) (a0_68 : Int) (a0_69 : Int) (a0_70 : Int) (a0_71 : Int) (a0_72 : Int) (a0_73 : Int) (a0_74 : Int) (a0_75 : Int) (a0_76 : Int) (a1_0 : Bool) (a1_1 : Bool) (a1_2 : Bool) (a1_3 : Bool) (a1_4 : Int) (a1_5 : Int) (r : Int) (w : World) (h : mezzanineref12_Pending.f k a0_0 a0_1 a0_2 a0_3 a0_4 a0_5 a0_6 a0_7 a0_8 a0_9 a0_10 a0_11 a0_12 a0_13 a0_14 a0_15 a0_16 a0_17 a0_18 a0_19 a0_20 a0_21 a0_22 a0_23 a0_24 a0_25 a0_26 a0_27 a0_28 a0_29 a0_30 a0_31 a0_32 a0_33 a0_34 a0_35 a0_36 a0_37 a0_38 a0_39 a0_40 a0_41 a0_42 a0_43 a0_44 a0_45 a0_46 a0_47 a0_48 a0_49 a0_50 a0_51 a0_52 a0_53 a0_54 a0_55 a0_56 a0_57 a0_58 a0_59 a0_60 a0_61 a0_62 a0_63 a0_64 a0_65 a0_66 a0_67 a0_68 a0_69 a0_70 a0_71 a0_72 a0_73 a0_74 a0_75 a0_76 a1_0 a1_1 a1_2 a1_3 a1_4 a1_5 = some r) :
    Calls Tryd.prog 12 #[.agg #[.int .u64 a0_0, .int .u64 a0_1, .int .u64 a0_2, .int .u64 a0_3, .int .u64 a0_4, .int .u64 a0_5, .int .u64 a0_6, .int .u64 a0_7, .int .u64 a0_8, .int .u64 a0_9, .int .u64 a0_10, .int .u64 a0_11, .int .u64 a0_12, .int .u64 a0_13, .int .u64 a0_14, .int .u64 a0_15, .int .u64 a0_16, .int .u64 a0_17, .int .u64 a0_18, .int .u64 a0_19, .int .u64 a0_20, .int .u64 a0_21, .int .u64 a0_22, .int .u64 a0_23, .int .u64 a0_24, .int .u64 a0_25, .int .u64 a0_26, .int .u64 a0_27, .int .u64 a0_28, .int .u64 a0_29, .int .u64 a0_30, .int .u64 a0_31, .int .u64 a0_32, .int .u8 a0_33, .bool a0_34, .bool a0_35, .bool a0_36, .int .u64 a0_37, .int .u64 a0_38, .int .u64 a0_39, .int .u64 a0_40, .int .u64 a0_41, .int .u64 a0_42, .int .u64 a0_43, .int .u64 a0_44, .int .u64 a0_45, .int .u64 a0_46, .int .u64 a0_47, .int .u64 a0_48, .int .u64 a0_49, .int .u64 a0_50, .int .u64 a0_51, .int .u64 a0_52, .int .u64 a0_53, .int .u64 a0_54, .int .u64 a0_55, .int .u64 a0_56, .int .u64 a0_57, .int .u64 a0_58, .int .u64 a0_59, .int .u64 a0_60, .int .u64 a0_61, .int .u64 a0_62, .int .u64 a0_63, .int .u64 a0_64, .int .u64 a0_65, .int .u64 a0_66, .int .u64 a0_67, .int .u64 a0_68, .int .u64 a0_69, .int .u64 a0_70, .int .u64 a0_71, .int .u64 a0_72, .int .u64 a0_73, .int .u64 a0_74, .int .u64 a0_75, .int .u64 a0_76], .agg #[.bool a1_0, .bool a1_1, .bool a1_2, .bool a1_3, .int .u64 a1_4, .int .u64 a1_5]] w fun e w' => e = .returned (.int .u64 r) ∧ Below w.heap.size w w' := by
  have hu25 := Tryd.underlying25
  have hu27 := Tryd.underlying27
  have HB := Aside0.mk (Below.refl w.heap.size w)
  have H : (if a1_0 = true then (mezzanineref12_Pending.j0 k (Go.bits .or .u64 (Go.bits .or .u64 a0_42 a0_61) 8) a0_0 a0_1 a0_2 a0_3 a0_4 a0_5 a0_6 a0_7 a0_8 a0_9 a0_10 a0_11 a0_12 a0_13 a0_14 a0_15 a0_16 a0_17 a0_18 a0_19 a0_20 a0_21 a0_22 a0_23 a0_24 a0_25 a0_26 a0_27 a0_28 a0_29 a0_30 a0_31 a0_32 a0_33 a0_34 a0_35 a0_36 a0_37 a0_38 a0_39 a0_40 a0_41 a0_42 a0_43 a0_44 a0_45 a0_46 a0_47 a0_48 a0_49 a0_50 a0_51 a0_52 a0_53 a0_54 a0_55 a0_56 a0_57 a0_58 a0_59 a0_60 a0_61 a0_62 a0_63 a0_64 a0_65 a0_66 a0_67 a0_68 a0_69 a0_70 a0_71 a0_72 a0_73 a0_74 a0_75 a0_76 a1_0 a1_1 a1_2 a1_3 a1_4 a1_5) else (mezzanineref12_Pending.j0 k (Go.bits .or .u64 a0_42 a0_61) a0_0 a0_1 a0_2 a0_3 a0_4 a0_5 a0_6 a0_7 a0_8 a0_9 a0_10 a0_11 a0_12 a0_13 a0_14 a0_15 a0_16 a0_17 a0_18 a0_19 a0_20 a0_21 a0_22 a0_23 a0_24 a0_25 a0_26 a0_27 a0_28 a0_29 a0_30 a0_31 a0_32 a0_33 a0_34 a0_35 a0_36 a0_37 a0_38 a0_39 a0_40 a0_41 a0_42 a0_43 a0_44 a0_45 a0_46 a0_47 a0_48 a0_49 a0_50 a0_51 a0_52 a0_53 a0_54 a0_55 a0_56 a0_57 a0_58 a0_59 a0_60 a0_61 a0_62 a0_63 a0_64 a0_65 a0_66 a0_67 a0_68 a0_69 a0_70 a0_71 a0_72 a0_73 a0_74 a0_75 a0_76 a1_0 a1_1 a1_2 a1_3 a1_4 a1_5)) = some r := h
  clear h
  have HC3 := Aside0.mk H
  clear H
  go_enter Tryd.func12, Tryd.ntmps12
  go_upto_if 12 with (first | ((with_reducible refine gate_dst (N := 2) rfl ?_); refine box_event ?hg (N := 2) ?hd (cs := #[.int .u64 a0_0, .int .u64 a0_1, .int .u64 a0_2, .int .u64 a0_3, .int .u64 a0_4, .int .u64 a0_5, .int .u64 a0_6, .int .u64 a0_7, .int .u64 a0_8, .int .u64 a0_9, .int .u64 a0_10, .int .u64 a0_11, .int .u64 a0_12, .int .u64 a0_13, .int .u64 a0_14, .int .u64 a0_15, .int .u64 a0_16, .int .u64 a0_17, .int .u64 a0_18, .int .u64 a0_19, .int .u64 a0_20, .int .u64 a0_21, .int .u64 a0_22, .int .u64 a0_23, .int .u64 a0_24, .int .u64 a0_25, .int .u64 a0_26, .int .u64 a0_27, .int .u64 a0_28, .int .u64 a0_29, .int .u64 a0_30, .int .u64 a0_31, .int .u64 a0_32, .int .u8 a0_33, .bool a0_34, .bool a0_35, .bool a0_36, .int .u64 a0_37, .int .u64 a0_38, .int .u64 a0_39, .int .u64 a0_40, .int .u64 a0_41, .int .u64 a0_42, .int .u64 a0_43, .int .u64 a0_44, .int .u64 a0_45, .int .u64 a0_46, .int .u64 a0_47, .int .u64 a0_48, .int .u64 a0_49, .int .u64 a0_50, .int .u64 a0_51, .int .u64 a0_52, .int .u64 a0_53, .int .u64 a0_54, .int .u64 a0_55, .int .u64 a0_56, .int .u64 a0_57, .int .u64 a0_58, .int .u64 a0_59, .int .u64 a0_60, .int .u64 a0_61, .int .u64 a0_62, .int .u64 a0_63, .int .u64 a0_64, .int .u64 a0_65, .int .u64 a0_66, .int .u64 a0_67, .int .u64 a0_68, .int .u64 a0_69, .int .u64 a0_70, .int .u64 a0_71, .int .u64 a0_72, .int .u64 a0_73, .int .u64 a0_74, .int .u64 a0_75, .int .u64 a0_76]) (t := 25) ?hr ?_; (case hd => rfl); (case hg => rfl); (case hr => first | (go_simp; done) | (go_simp; rfl)); intro gb103 hg w4 hbox hb; have n0_ := Aside0.mk (below_step (by repeat (first | (with_reducible first | exact HB.out | apply below_alloc | apply pw_below_drewN | apply below_drew1) | exact HB.out)) hb); have n1_ := Aside0.mk (hbox); have n2_ := Aside0.mk ((by rw [hg]; exact (below_size (by repeat (first | (with_reducible first | exact HB.out | apply below_alloc | apply pw_below_drewN | apply below_drew1) | exact HB.out))) : w.heap.size ≤ gb103)); have n3_ := Aside0.mk ((by rw [hg]; exact (below_size (by repeat (first | (with_reducible first | exact HB.out | apply below_alloc | apply pw_below_drewN | apply below_drew1) | exact HB.out))) : w.heap.size ≤ gb103)); clear HB; have HB := n0_; have BK103 := n1_; have GW103 := n2_; have GE103 := n3_; clear n0_ n1_ n2_ n3_; clear hb hbox hg) | ((with_reducible refine gate_dst (N := 3) rfl ?_); refine box_event ?hg (N := 3) ?hd (cs := #[.bool a1_0, .bool a1_1, .bool a1_2, .bool a1_3, .int .u64 a1_4, .int .u64 a1_5]) (t := 27) ?hr ?_; (case hd => rfl); (case hg => rfl); (case hr => first | (go_simp; done) | (go_simp; rfl)); intro gb104 hg w5 hbox hb; have n0_ := Aside0.mk (blk_below (g := gb103) (o := .cells #[.int .u64 a0_0, .int .u64 a0_1, .int .u64 a0_2, .int .u64 a0_3, .int .u64 a0_4, .int .u64 a0_5, .int .u64 a0_6, .int .u64 a0_7, .int .u64 a0_8, .int .u64 a0_9, .int .u64 a0_10, .int .u64 a0_11, .int .u64 a0_12, .int .u64 a0_13, .int .u64 a0_14, .int .u64 a0_15, .int .u64 a0_16, .int .u64 a0_17, .int .u64 a0_18, .int .u64 a0_19, .int .u64 a0_20, .int .u64 a0_21, .int .u64 a0_22, .int .u64 a0_23, .int .u64 a0_24, .int .u64 a0_25, .int .u64 a0_26, .int .u64 a0_27, .int .u64 a0_28, .int .u64 a0_29, .int .u64 a0_30, .int .u64 a0_31, .int .u64 a0_32, .int .u8 a0_33, .bool a0_34, .bool a0_35, .bool a0_36, .int .u64 a0_37, .int .u64 a0_38, .int .u64 a0_39, .int .u64 a0_40, .int .u64 a0_41, .int .u64 a0_42, .int .u64 a0_43, .int .u64 a0_44, .int .u64 a0_45, .int .u64 a0_46, .int .u64 a0_47, .int .u64 a0_48, .int .u64 a0_49, .int .u64 a0_50, .int .u64 a0_51, .int .u64 a0_52, .int .u64 a0_53, .int .u64 a0_54, .int .u64 a0_55, .int .u64 a0_56, .int .u64 a0_57, .int .u64 a0_58, .int .u64 a0_59, .int .u64 a0_60, .int .u64 a0_61, .int .u64 a0_62, .int .u64 a0_63, .int .u64 a0_64, .int .u64 a0_65, .int .u64 a0_66, .int .u64 a0_67, .int .u64 a0_68, .int .u64 a0_69, .int .u64 a0_70, .int .u64 a0_71, .int .u64 a0_72, .int .u64 a0_73, .int .u64 a0_74, .int .u64 a0_75, .int .u64 a0_76] 25 (0, 0)) (by (with_reducible repeat (first | refine blk_drewN ?_ _ | refine blk_drew ?_ | refine blk_alloc ?_ _)); exact BK103.out) hb); have n1_ := Aside0.mk (below_step (by repeat (first | (with_reducible first | exact HB.out | apply below_alloc | apply pw_below_drewN | apply below_drew1 | refine below_set ?_ GE103.out) | exact HB.out)) hb); have n2_ := Aside0.mk (hbox); have n3_ := Aside0.mk ((by rw [hg]; exact (below_size (by repeat (first | (with_reducible first | exact HB.out | apply below_alloc | apply pw_below_drewN | apply below_drew1 | refine below_set ?_ GE103.out) | exact HB.out))) : w.heap.size ≤ gb104)); have n4_ := Aside0.mk ((by rw [hg]; exact (below_size (by repeat (first | (with_reducible first | exact HB.out | apply below_alloc | apply pw_below_drewN | apply below_drew1 | refine below_set ?_ GE103.out) | exact HB.out))) : w.heap.size ≤ gb104)); have n5_ := Aside0.mk ((by rw [hg]; exact Nat.ne_of_lt (blk_lt (g := gb103) (o := .cells #[.int .u64 a0_0, .int .u64 a0_1, .int .u64 a0_2, .int .u64 a0_3, .int .u64 a0_4, .int .u64 a0_5, .int .u64 a0_6, .int .u64 a0_7, .int .u64 a0_8, .int .u64 a0_9, .int .u64 a0_10, .int .u64 a0_11, .int .u64 a0_12, .int .u64 a0_13, .int .u64 a0_14, .int .u64 a0_15, .int .u64 a0_16, .int .u64 a0_17, .int .u64 a0_18, .int .u64 a0_19, .int .u64 a0_20, .int .u64 a0_21, .int .u64 a0_22, .int .u64 a0_23, .int .u64 a0_24, .int .u64 a0_25, .int .u64 a0_26, .int .u64 a0_27, .int .u64 a0_28, .int .u64 a0_29, .int .u64 a0_30, .int .u64 a0_31, .int .u64 a0_32, .int .u8 a0_33, .bool a0_34, .bool a0_35, .bool a0_36, .int .u64 a0_37, .int .u64 a0_38, .int .u64 a0_39, .int .u64 a0_40, .int .u64 a0_41, .int .u64 a0_42, .int .u64 a0_43, .int .u64 a0_44, .int .u64 a0_45, .int .u64 a0_46, .int .u64 a0_47, .int .u64 a0_48, .int .u64 a0_49, .int .u64 a0_50, .int .u64 a0_51, .int .u64 a0_52, .int .u64 a0_53, .int .u64 a0_54, .int .u64 a0_55, .int .u64 a0_56, .int .u64 a0_57, .int .u64 a0_58, .int .u64 a0_59, .int .u64 a0_60, .int .u64 a0_61, .int .u64 a0_62, .int .u64 a0_63, .int .u64 a0_64, .int .u64 a0_65, .int .u64 a0_66, .int .u64 a0_67, .int .u64 a0_68, .int .u64 a0_69, .int .u64 a0_70, .int .u64 a0_71, .int .u64 a0_72, .int .u64 a0_73, .int .u64 a0_74, .int .u64 a0_75, .int .u64 a0_76] 25 (0, 0)) (by (with_reducible repeat (first | refine blk_drewN ?_ _ | refine blk_drew ?_ | refine blk_alloc ?_ _)); exact BK103.out)) : gb103 ≠ gb104)); have n6_ := Aside0.mk ((by rw [hg]; exact Nat.ne_of_gt (blk_lt (g := gb103) (o := .cells #[.int .u64 a0_0, .int .u64 a0_1, .int .u64 a0_2, .int .u64 a0_3, .int .u64 a0_4, .int .u64 a0_5, .int .u64 a0_6, .int .u64 a0_7, .int .u64 a0_8, .int .u64 a0_9, .int .u64 a0_10, .int .u64 a0_11, .int .u64 a0_12, .int .u64 a0_13, .int .u64 a0_14, .int .u64 a0_15, .int .u64 a0_16, .int .u64 a0_17, .int .u64 a0_18, .int .u64 a0_19, .int .u64 a0_20, .int .u64 a0_21, .int .u64 a0_22, .int .u64 a0_23, .int .u64 a0_24, .int .u64 a0_25, .int .u64 a0_26, .int .u64 a0_27, .int .u64 a0_28, .int .u64 a0_29, .int .u64 a0_30, .int .u64 a0_31, .int .u64 a0_32, .int .u8 a0_33, .bool a0_34, .bool a0_35, .bool a0_36, .int .u64 a0_37, .int .u64 a0_38, .int .u64 a0_39, .int .u64 a0_40, .int .u64 a0_41, .int .u64 a0_42, .int .u64 a0_43, .int .u64 a0_44, .int .u64 a0_45, .int .u64 a0_46, .int .u64 a0_47, .int .u64 a0_48, .int .u64 a0_49, .int .u64 a0_50, .int .u64 a0_51, .int .u64 a0_52, .int .u64 a0_53, .int .u64 a0_54, .int .u64 a0_55, .int .u64 a0_56, .int .u64 a0_57, .int .u64 a0_58, .int .u64 a0_59, .int .u64 a0_60, .int .u64 a0_61, .int .u64 a0_62, .int .u64 a0_63, .int .u64 a0_64, .int .u64 a0_65, .int .u64 a0_66, .int .u64 a0_67, .int .u64 a0_68, .int .u64 a0_69, .int .u64 a0_70, .int .u64 a0_71, .int .u64 a0_72, .int .u64 a0_73, .int .u64 a0_74, .int .u64 a0_75, .int .u64 a0_76] 25 (0, 0)) (by (with_reducible repeat (first | refine blk_drewN ?_ _ | refine blk_drew ?_ | refine blk_alloc ?_ _)); exact BK103.out)) : gb104 ≠ gb103)); clear BK103; clear HB; have BK103 := n0_; have HB := n1_; have BK104 := n2_; have GW104 := n3_; have GE104 := n4_; have NB103_104 := n5_; have NB104_103 := n6_; clear n0_ n1_ n2_ n3_ n4_ n5_ n6_; clear hb hbox hg; have hnb6 := NB103_104.out; have hnc6 := NB104_103.out; have hcz7_42 : w5.cell? ⟨gb103, 42, none⟩ = some (.int .u64 a0_42) := (blk_cell BK103.out 42).trans rfl; have hcz7_58 : w5.cell? ⟨gb103, 58, none⟩ = some (.int .u64 a0_58) := (blk_cell BK103.out 58).trans rfl; have hcz7_61 : w5.cell? ⟨gb103, 61, none⟩ = some (.int .u64 a0_61) := (blk_cell BK103.out 61).trans rfl; have hcz7_63 : w5.cell? ⟨gb103, 63, none⟩ = some (.int .u64 a0_63) := (blk_cell BK103.out 63).trans rfl; have hfz7_42 := blk_frozen BK103.out 42; have hfz7_58 := blk_frozen BK103.out 58; have hfz7_61 := blk_frozen BK103.out 61; have hfz7_63 := blk_frozen BK103.out 63; have hcz8_0 : w5.cell? ⟨gb104, 0, none⟩ = some (.bool a1_0) := (blk_cell BK104.out 0).trans rfl; have hcz8_1 : w5.cell? ⟨gb104, 1, none⟩ = some (.bool a1_1) := (blk_cell BK104.out 1).trans rfl; have hcz8_2 : w5.cell? ⟨gb104, 2, none⟩ = some (.bool a1_2) := (blk_cell BK104.out 2).trans rfl; have hcz8_3 : w5.cell? ⟨gb104, 3, none⟩ = some (.bool a1_3) := (blk_cell BK104.out 3).trans rfl; have hcz8_4 : w5.cell? ⟨gb104, 4, none⟩ = some (.int .u64 a1_4) := (blk_cell BK104.out 4).trans rfl; have hcz8_5 : w5.cell? ⟨gb104, 5, none⟩ = some (.int .u64 a1_5) := (blk_cell BK104.out 5).trans rfl; have hfz8_0 := blk_frozen BK104.out 0; have hfz8_1 := blk_frozen BK104.out 1; have hfz8_2 := blk_frozen BK104.out 2; have hfz8_3 := blk_frozen BK104.out 3; have hfz8_4 := blk_frozen BK104.out 4; have hfz8_5 := blk_frozen BK104.out 5))
  (try simp only [Act.put, List.setIfInBounds_toArray, List.set_cons_zero, List.set_cons_succ])
  go_cut [5] (fun v5 wc => ∃ (kq : Nat) (x5_2 : Int), v5 = .int .u64 x5_2 ∧ Aside0 (mezzanineref12_Pending.j0 kq x5_2 a0_0 a0_1 a0_2 a0_3 a0_4 a0_5 a0_6 a0_7 a0_8 a0_9 a0_10 a0_11 a0_12 a0_13 a0_14 a0_15 a0_16 a0_17 a0_18 a0_19 a0_20 a0_21 a0_22 a0_23 a0_24 a0_25 a0_26 a0_27 a0_28 a0_29 a0_30 a0_31 a0_32 a0_33 a0_34 a0_35 a0_36 a0_37 a0_38 a0_39 a0_40 a0_41 a0_42 a0_43 a0_44 a0_45 a0_46 a0_47 a0_48 a0_49 a0_50 a0_51 a0_52 a0_53 a0_54 a0_55 a0_56 a0_57 a0_58 a0_59 a0_60 a0_61 a0_62 a0_63 a0_64 a0_65 a0_66 a0_67 a0_68 a0_69 a0_70 a0_71 a0_72 a0_73 a0_74 a0_75 a0_76 a1_0 a1_1 a1_2 a1_3 a1_4 a1_5 = some r) ∧ Aside0 (kq ≤ k) ∧ Aside0 (wc.heap[gb103]? = some (.cells #[.int .u64 a0_0, .int .u64 a0_1, .int .u64 a0_2, .int .u64 a0_3, .int .u64 a0_4, .int .u64 a0_5, .int .u64 a0_6, .int .u64 a0_7, .int .u64 a0_8, .int .u64 a0_9, .int .u64 a0_10, .int .u64 a0_11, .int .u64 a0_12, .int .u64 a0_13, .int .u64 a0_14, .int .u64 a0_15, .int .u64 a0_16, .int .u64 a0_17, .int .u64 a0_18, .int .u64 a0_19, .int .u64 a0_20, .int .u64 a0_21, .int .u64 a0_22, .int .u64 a0_23, .int .u64 a0_24, .int .u64 a0_25, .int .u64 a0_26, .int .u64 a0_27, .int .u64 a0_28, .int .u64 a0_29, .int .u64 a0_30, .int .u64 a0_31, .int .u64 a0_32, .int .u8 a0_33, .bool a0_34, .bool a0_35, .bool a0_36, .int .u64 a0_37, .int .u64 a0_38, .int .u64 a0_39, .int .u64 a0_40, .int .u64 a0_41, .int .u64 a0_42, .int .u64 a0_43, .int .u64 a0_44, .int .u64 a0_45, .int .u64 a0_46, .int .u64 a0_47, .int .u64 a0_48, .int .u64 a0_49, .int .u64 a0_50, .int .u64 a0_51, .int .u64 a0_52, .int .u64 a0_53, .int .u64 a0_54, .int .u64 a0_55, .int .u64 a0_56, .int .u64 a0_57, .int .u64 a0_58, .int .u64 a0_59, .int .u64 a0_60, .int .u64 a0_61, .int .u64 a0_62, .int .u64 a0_63, .int .u64 a0_64, .int .u64 a0_65, .int .u64 a0_66, .int .u64 a0_67, .int .u64 a0_68, .int .u64 a0_69, .int .u64 a0_70, .int .u64 a0_71, .int .u64 a0_72, .int .u64 a0_73, .int .u64 a0_74, .int .u64 a0_75, .int .u64 a0_76] 25 (0, 0))) ∧ Aside0 (wc.heap[gb104]? = some (.cells #[.bool a1_0, .bool a1_1, .bool a1_2, .bool a1_3, .int .u64 a1_4, .int .u64 a1_5] 27 (0, 0))) ∧ Aside0 (Below w.heap.size w wc))
  case first =>
    have H := HC3.out
    clear HC3
    by_cases c9 : a1_0 = true
    · subst c9
      have H1 : (mezzanineref12_Pending.j0 k (Go.bits .or .u64 (Go.bits .or .u64 a0_42 a0_61) 8) a0_0 a0_1 a0_2 a0_3 a0_4 a0_5 a0_6 a0_7 a0_8 a0_9 a0_10 a0_11 a0_12 a0_13 a0_14 a0_15 a0_16 a0_17 a0_18 a0_19 a0_20 a0_21 a0_22 a0_23 a0_24 a0_25 a0_26 a0_27 a0_28 a0_29 a0_30 a0_31 a0_32 a0_33 a0_34 a0_35 a0_36 a0_37 a0_38 a0_39 a0_40 a0_41 a0_42 a0_43 a0_44 a0_45 a0_46 a0_47 a0_48 a0_49 a0_50 a0_51 a0_52 a0_53 a0_54 a0_55 a0_56 a0_57 a0_58 a0_59 a0_60 a0_61 a0_62 a0_63 a0_64 a0_65 a0_66 a0_67 a0_68 a0_69 a0_70 a0_71 a0_72 a0_73 a0_74 a0_75 a0_76 true a1_1 a1_2 a1_3 a1_4 a1_5) = some r := by rw [if_pos rfl] at H; exact H
      clear H
      have H := H1
      clear H1
      have H' := Aside0.mk H
      clear H
      go_wp2
      go_meet
      case rel => exact ⟨_, (Go.bits .or .u64 (Go.bits .or .u64 a0_42 a0_61) 8), (by first | rfl | (simp; done) | (simp [*]; done)), H', ⟨by first | omega | exact Nat.le_refl _⟩, ⟨by (with_reducible repeat (first | refine blk_drewN ?_ _ | refine blk_drew ?_ | refine blk_alloc ?_ _)); exact BK103.out⟩, ⟨by (with_reducible repeat (first | refine blk_drewN ?_ _ | refine blk_drew ?_ | refine blk_alloc ?_ _)); exact BK104.out⟩, ⟨by repeat (first | (with_reducible first | exact HB.out | apply below_alloc | apply pw_below_drewN | apply below_drew1 | refine below_set ?_ GE103.out | refine below_set ?_ GE104.out) | exact HB.out)⟩⟩
    · replace c9 := Bool.eq_false_iff.mpr c9
      subst c9
      have H1 : (mezzanineref12_Pending.j0 k (Go.bits .or .u64 a0_42 a0_61) a0_0 a0_1 a0_2 a0_3 a0_4 a0_5 a0_6 a0_7 a0_8 a0_9 a0_10 a0_11 a0_12 a0_13 a0_14 a0_15 a0_16 a0_17 a0_18 a0_19 a0_20 a0_21 a0_22 a0_23 a0_24 a0_25 a0_26 a0_27 a0_28 a0_29 a0_30 a0_31 a0_32 a0_33 a0_34 a0_35 a0_36 a0_37 a0_38 a0_39 a0_40 a0_41 a0_42 a0_43 a0_44 a0_45 a0_46 a0_47 a0_48 a0_49 a0_50 a0_51 a0_52 a0_53 a0_54 a0_55 a0_56 a0_57 a0_58 a0_59 a0_60 a0_61 a0_62 a0_63 a0_64 a0_65 a0_66 a0_67 a0_68 a0_69 a0_70 a0_71 a0_72 a0_73 a0_74 a0_75 a0_76 false a1_1 a1_2 a1_3 a1_4 a1_5) = some r := by rw [if_neg (show ¬ (false = true) by decide)] at H; exact H
      clear H
      have H := H1
      clear H1
      have H' := Aside0.mk H
      clear H
      go_wp2
      go_meet
      case rel => exact ⟨_, (Go.bits .or .u64 a0_42 a0_61), (by first | rfl | (simp; done) | (simp [*]; done)), H', ⟨by first | omega | exact Nat.le_refl _⟩, ⟨by (with_reducible repeat (first | refine blk_drewN ?_ _ | refine blk_drew ?_ | refine blk_alloc ?_ _)); exact BK103.out⟩, ⟨by (with_reducible repeat (first | refine blk_drewN ?_ _ | refine blk_drew ?_ | refine blk_alloc ?_ _)); exact BK104.out⟩, ⟨by repeat (first | (with_reducible first | exact HB.out | apply below_alloc | apply pw_below_drewN | apply below_drew1 | refine below_set ?_ GE103.out | refine below_set ?_ GE104.out) | exact HB.out)⟩⟩
  case rest =>
    clear HC3
    try clear c1
    try clear p2
    try clear c6
    try clear c9
    try clear hcz7_42
    try clear hcz7_58
    try clear hcz7_61
    try clear hcz7_63
    try clear hcz8_0
    try clear hcz8_1
    try clear hcz8_2
    try clear hcz8_3
    try clear hcz8_4
    try clear hcz8_5
    try clear hfz7_42
    try clear hfz7_58
    try clear hfz7_61
    try clear hfz7_63
    try clear hfz8_0
    try clear hfz8_1
    try clear hfz8_2
    try clear hfz8_3
    try clear hfz8_4
    try clear hfz8_5
    obtain ⟨kq, x5_2, rfl, HA, HJ2, BK103, BK104, HB⟩ := hcut
    cases kq with
    | zero => exact absurd HA.out (by simp [mezzanineref12_Pending.j0])
    | succ kj2 =>
      have H := HA.out
      clear HA
      simp only [mezzanineref12_Pending.j0] at H
      have HC10 := Aside0.mk H
      clear H
      have hnb11 := NB104_103.out
      have hnc11 := NB103_104.out
      have hcz12_0 : wc.cell? ⟨gb104, 0, none⟩ = some (.bool a1_0) := (blk_cell BK104.out 0).trans rfl
      have hcz12_1 : wc.cell? ⟨gb104, 1, none⟩ = some (.bool a1_1) := (blk_cell BK104.out 1).trans rfl
      have hcz12_2 : wc.cell? ⟨gb104, 2, none⟩ = some (.bool a1_2) := (blk_cell BK104.out 2).trans rfl
      have hcz12_3 : wc.cell? ⟨gb104, 3, none⟩ = some (.bool a1_3) := (blk_cell BK104.out 3).trans rfl
      have hcz12_4 : wc.cell? ⟨gb104, 4, none⟩ = some (.int .u64 a1_4) := (blk_cell BK104.out 4).trans rfl
      have hcz12_5 : wc.cell? ⟨gb104, 5, none⟩ = some (.int .u64 a1_5) := (blk_cell BK104.out 5).trans rfl
      have hfz12_0 := blk_frozen BK104.out 0
      have hfz12_1 := blk_frozen BK104.out 1
      have hfz12_2 := blk_frozen BK104.out 2
      have hfz12_3 := blk_frozen BK104.out 3
      have hfz12_4 := blk_frozen BK104.out 4
      have hfz12_5 := blk_frozen BK104.out 5
      go_upto_if 16 with (fail)
      go_cut [5] (fun v5 wc => ∃ (kq : Nat) (x5_9 : Int), v5 = .int .u64 x5_9 ∧ Aside0 (mezzanineref12_Pending.j1 kq x5_9 a0_0 a0_1 a0_2 a0_3 a0_4 a0_5 a0_6 a0_7 a0_8 a0_9 a0_10 a0_11 a0_12 a0_13 a0_14 a0_15 a0_16 a0_17 a0_18 a0_19 a0_20 a0_21 a0_22 a0_23 a0_24 a0_25 a0_26 a0_27 a0_28 a0_29 a0_30 a0_31 a0_32 a0_33 a0_34 a0_35 a0_36 a0_37 a0_38 a0_39 a0_40 a0_41 a0_42 a0_43 a0_44 a0_45 a0_46 a0_47 a0_48 a0_49 a0_50 a0_51 a0_52 a0_53 a0_54 a0_55 a0_56 a0_57 a0_58 a0_59 a0_60 a0_61 a0_62 a0_63 a0_64 a0_65 a0_66 a0_67 a0_68 a0_69 a0_70 a0_71 a0_72 a0_73 a0_74 a0_75 a0_76 a1_0 a1_1 a1_2 a1_3 a1_4 a1_5 = some r) ∧ Aside0 (kq ≤ kj2) ∧ Aside0 (wc.heap[gb103]? = some (.cells #[.int .u64 a0_0, .int .u64 a0_1, .int .u64 a0_2, .int .u64 a0_3, .int .u64 a0_4, .int .u64 a0_5, .int .u64 a0_6, .int .u64 a0_7, .int .u64 a0_8, .int .u64 a0_9, .int .u64 a0_10, .int .u64 a0_11, .int .u64 a0_12, .int .u64 a0_13, .int .u64 a0_14, .int .u64 a0_15, .int .u64 a0_16, .int .u64 a0_17, .int .u64 a0_18, .int .u64 a0_19, .int .u64 a0_20, .int .u64 a0_21, .int .u64 a0_22, .int .u64 a0_23, .int .u64 a0_24, .int .u64 a0_25, .int .u64 a0_26, .int .u64 a0_27, .int .u64 a0_28, .int .u64 a0_29, .int .u64 a0_30, .int .u64 a0_31, .int .u64 a0_32, .int .u8 a0_33, .bool a0_34, .bool a0_35, .bool a0_36, .int .u64 a0_37, .int .u64 a0_38, .int .u64 a0_39, .int .u64 a0_40, .int .u64 a0_41, .int .u64 a0_42, .int .u64 a0_43, .int .u64 a0_44, .int .u64 a0_45, .int .u64 a0_46, .int .u64 a0_47, .int .u64 a0_48, .int .u64 a0_49, .int .u64 a0_50, .int .u64 a0_51, .int .u64 a0_52, .int .u64 a0_53, .int .u64 a0_54, .int .u64 a0_55, .int .u64 a0_56, .int .u64 a0_57, .int .u64 a0_58, .int .u64 a0_59, .int .u64 a0_60, .int .u64 a0_61, .int .u64 a0_62, .int .u64 a0_63, .int .u64 a0_64, .int .u64 a0_65, .int .u64 a0_66, .int .u64 a0_67, .int .u64 a0_68, .int .u64 a0_69, .int .u64 a0_70, .int .u64 a0_71, .int .u64 a0_72, .int .u64 a0_73, .int .u64 a0_74, .int .u64 a0_75, .int .u64 a0_76] 25 (0, 0))) ∧ Aside0 (wc.heap[gb104]? = some (.cells #[.bool a1_0, .bool a1_1, .bool a1_2, .bool a1_3, .int .u64 a1_4, .int .u64 a1_5] 27 (0, 0))) ∧ Aside0 (Below w.heap.size w wc))
      case first =>
        have H := HC10.out
        clear HC10
        by_cases c13 : a1_1 = true
        · subst c13
          have H1 : (mezzanineref12_Pending.j1 kj2 (Go.bits .or .u64 x5_2 128) a0_0 a0_1 a0_2 a0_3 a0_4 a0_5 a0_6 a0_7 a0_8 a0_9 a0_10 a0_11 a0_12 a0_13 a0_14 a0_15 a0_16 a0_17 a0_18 a0_19 a0_20 a0_21 a0_22 a0_23 a0_24 a0_25 a0_26 a0_27 a0_28 a0_29 a0_30 a0_31 a0_32 a0_33 a0_34 a0_35 a0_36 a0_37 a0_38 a0_39 a0_40 a0_41 a0_42 a0_43 a0_44 a0_45 a0_46 a0_47 a0_48 a0_49 a0_50 a0_51 a0_52 a0_53 a0_54 a0_55 a0_56 a0_57 a0_58 a0_59 a0_60 a0_61 a0_62 a0_63 a0_64 a0_65 a0_66 a0_67 a0_68 a0_69 a0_70 a0_71 a0_72 a0_73 a0_74 a0_75 a0_76 a1_0 true a1_2 a1_3 a1_4 a1_5) = some r := by rw [if_pos rfl] at H; exact H
          clear H
          have H := H1
          clear H1
          have H' := Aside0.mk H
          clear H
          go_wp2
          go_meet
          case rel => exact ⟨_, (Go.bits .or .u64 x5_2 128), (by first | rfl | (simp; done) | (simp [*]; done)), H', ⟨by have := HJ2.out; first | omega | exact Nat.le_refl _⟩, ⟨by (with_reducible repeat (first | refine blk_drewN ?_ _ | refine blk_drew ?_ | refine blk_alloc ?_ _)); exact BK103.out⟩, ⟨by (with_reducible repeat (first | refine blk_drewN ?_ _ | refine blk_drew ?_ | refine blk_alloc ?_ _)); exact BK104.out⟩, ⟨by repeat (first | (with_reducible first | exact HB.out | apply below_alloc | apply pw_below_drewN | apply below_drew1 | refine below_set ?_ GE103.out | refine below_set ?_ GE104.out) | exact HB.out)⟩⟩
        · replace c13 := Bool.eq_false_iff.mpr c13
          subst c13
          have H1 : (mezzanineref12_Pending.j1 kj2 x5_2 a0_0 a0_1 a0_2 a0_3 a0_4 a0_5 a0_6 a0_7 a0_8 a0_9 a0_10 a0_11 a0_12 a0_13 a0_14 a0_15 a0_16 a0_17 a0_18 a0_19 a0_20 a0_21 a0_22 a0_23 a0_24 a0_25 a0_26 a0_27 a0_28 a0_29 a0_30 a0_31 a0_32 a0_33 a0_34 a0_35 a0_36 a0_37 a0_38 a0_39 a0_40 a0_41 a0_42 a0_43 a0_44 a0_45 a0_46 a0_47 a0_48 a0_49 a0_50 a0_51 a0_52 a0_53 a0_54 a0_55 a0_56 a0_57 a0_58 a0_59 a0_60 a0_61 a0_62 a0_63 a0_64 a0_65 a0_66 a0_67 a0_68 a0_69 a0_70 a0_71 a0_72 a0_73 a0_74 a0_75 a0_76 a1_0 false a1_2 a1_3 a1_4 a1_5) = some r := by rw [if_neg (show ¬ (false = true) by decide)] at H; exact H
          clear H
          have H := H1
          clear H1
          have H' := Aside0.mk H
          clear H
          go_wp2
          go_meet
          case rel => exact ⟨_, (x5_2), (by first | rfl | (simp; done) | (simp [*]; done)), H', ⟨by have := HJ2.out; first | omega | exact Nat.le_refl _⟩, ⟨by (with_reducible repeat (first | refine blk_drewN ?_ _ | refine blk_drew ?_ | refine blk_alloc ?_ _)); exact BK103.out⟩, ⟨by (with_reducible repeat (first | refine blk_drewN ?_ _ | refine blk_drew ?_ | refine blk_alloc ?_ _)); exact BK104.out⟩, ⟨by repeat (first | (with_reducible first | exact HB.out | apply below_alloc | apply pw_below_drewN | apply below_drew1 | refine below_set ?_ GE103.out | refine below_set ?_ GE104.out) | exact HB.out)⟩⟩
      case rest =>
        clear HC10
        try clear c1
        try clear p2
        try clear c6
        try clear c9
        try clear c11
        try clear c12
        try clear c13
        try clear hcz12_0
        try clear hcz12_1
        try clear hcz12_2
        try clear hcz12_3
        try clear hcz12_4
        try clear hcz12_5
        try clear hcz7_42
        try clear hcz7_58
        try clear hcz7_61
        try clear hcz7_63
        try clear hcz8_0
        try clear hcz8_1
        try clear hcz8_2
        try clear hcz8_3
        try clear hcz8_4
        try clear hcz8_5
        try clear hfz12_0
        try clear hfz12_1
        try clear hfz12_2
        try clear hfz12_3
        try clear hfz12_4
        try clear hfz12_5
        try clear hfz7_42
        try clear hfz7_58
        try clear hfz7_61
        try clear hfz7_63
        try clear hfz8_0
        try clear hfz8_1
        try clear hfz8_2
        try clear hfz8_3
        try clear hfz8_4
        try clear hfz8_5
        try clear p2
        obtain ⟨kq, x5_9, rfl, HA, HJ9, BK103, BK104, HB⟩ := hcut
        cases kq with
        | zero => exact absurd HA.out (by simp [mezzanineref12_Pending.j1])
        | succ kj9 =>
          have H := HA.out
          clear HA
          simp only [mezzanineref12_Pending.j1] at H
          have HC14 := Aside0.mk H
          clear H
          have hnb15 := NB104_103.out
          have hnc15 := NB103_104.out
          have hcz16_0 : wc.cell? ⟨gb104, 0, none⟩ = some (.bool a1_0) := (blk_cell BK104.out 0).trans rfl
          have hcz16_1 : wc.cell? ⟨gb104, 1, none⟩ = some (.bool a1_1) := (blk_cell BK104.out 1).trans rfl
          have hcz16_2 : wc.cell? ⟨gb104, 2, none⟩ = some (.bool a1_2) := (blk_cell BK104.out 2).trans rfl
          have hcz16_3 : wc.cell? ⟨gb104, 3, none⟩ = some (.bool a1_3) := (blk_cell BK104.out 3).trans rfl
          have hcz16_4 : wc.cell? ⟨gb104, 4, none⟩ = some (.int .u64 a1_4) := (blk_cell BK104.out 4).trans rfl
          have hcz16_5 : wc.cell? ⟨gb104, 5, none⟩ = some (.int .u64 a1_5) := (blk_cell BK104.out 5).trans rfl
          have hfz16_0 := blk_frozen BK104.out 0
          have hfz16_1 := blk_frozen BK104.out 1
          have hfz16_2 := blk_frozen BK104.out 2
          have hfz16_3 := blk_frozen BK104.out 3
          have hfz16_4 := blk_frozen BK104.out 4
          have hfz16_5 := blk_frozen BK104.out 5
          go_upto_if 20 with (fail)
          go_cut [5] (fun v5 wc => ∃ (kq : Nat) (x5_13 : Int), v5 = .int .u64 x5_13 ∧ Aside0 (mezzanineref12_Pending.j2 kq x5_13 a0_0 a0_1 a0_2 a0_3 a0_4 a0_5 a0_6 a0_7 a0_8 a0_9 a0_10 a0_11 a0_12 a0_13 a0_14 a0_15 a0_16 a0_17 a0_18 a0_19 a0_20 a0_21 a0_22 a0_23 a0_24 a0_25 a0_26 a0_27 a0_28 a0_29 a0_30 a0_31 a0_32 a0_33 a0_34 a0_35 a0_36 a0_37 a0_38 a0_39 a0_40 a0_41 a0_42 a0_43 a0_44 a0_45 a0_46 a0_47 a0_48 a0_49 a0_50 a0_51 a0_52 a0_53 a0_54 a0_55 a0_56 a0_57 a0_58 a0_59 a0_60 a0_61 a0_62 a0_63 a0_64 a0_65 a0_66 a0_67 a0_68 a0_69 a0_70 a0_71 a0_72 a0_73 a0_74 a0_75 a0_76 a1_0 a1_1 a1_2 a1_3 a1_4 a1_5 = some r) ∧ Aside0 (kq ≤ kj9) ∧ Aside0 (wc.heap[gb103]? = some (.cells #[.int .u64 a0_0, .int .u64 a0_1, .int .u64 a0_2, .int .u64 a0_3, .int .u64 a0_4, .int .u64 a0_5, .int .u64 a0_6, .int .u64 a0_7, .int .u64 a0_8, .int .u64 a0_9, .int .u64 a0_10, .int .u64 a0_11, .int .u64 a0_12, .int .u64 a0_13, .int .u64 a0_14, .int .u64 a0_15, .int .u64 a0_16, .int .u64 a0_17, .int .u64 a0_18, .int .u64 a0_19, .int .u64 a0_20, .int .u64 a0_21, .int .u64 a0_22, .int .u64 a0_23, .int .u64 a0_24, .int .u64 a0_25, .int .u64 a0_26, .int .u64 a0_27, .int .u64 a0_28, .int .u64 a0_29, .int .u64 a0_30, .int .u64 a0_31, .int .u64 a0_32, .int .u8 a0_33, .bool a0_34, .bool a0_35, .bool a0_36, .int .u64 a0_37, .int .u64 a0_38, .int .u64 a0_39, .int .u64 a0_40, .int .u64 a0_41, .int .u64 a0_42, .int .u64 a0_43, .int .u64 a0_44, .int .u64 a0_45, .int .u64 a0_46, .int .u64 a0_47, .int .u64 a0_48, .int .u64 a0_49, .int .u64 a0_50, .int .u64 a0_51, .int .u64 a0_52, .int .u64 a0_53, .int .u64 a0_54, .int .u64 a0_55, .int .u64 a0_56, .int .u64 a0_57, .int .u64 a0_58, .int .u64 a0_59, .int .u64 a0_60, .int .u64 a0_61, .int .u64 a0_62, .int .u64 a0_63, .int .u64 a0_64, .int .u64 a0_65, .int .u64 a0_66, .int .u64 a0_67, .int .u64 a0_68, .int .u64 a0_69, .int .u64 a0_70, .int .u64 a0_71, .int .u64 a0_72, .int .u64 a0_73, .int .u64 a0_74, .int .u64 a0_75, .int .u64 a0_76] 25 (0, 0))) ∧ Aside0 (wc.heap[gb104]? = some (.cells #[.bool a1_0, .bool a1_1, .bool a1_2, .bool a1_3, .int .u64 a1_4, .int .u64 a1_5] 27 (0, 0))) ∧ Aside0 (Below w.heap.size w wc))
          case first =>
            have H := HC14.out
            clear HC14
            by_cases c17 : a1_2 = true
            · subst c17
              have H1 : (mezzanineref12_Pending.j2 kj9 (Go.bits .or .u64 x5_9 2048) a0_0 a0_1 a0_2 a0_3 a0_4 a0_5 a0_6 a0_7 a0_8 a0_9 a0_10 a0_11 a0_12 a0_13 a0_14 a0_15 a0_16 a0_17 a0_18 a0_19 a0_20 a0_21 a0_22 a0_23 a0_24 a0_25 a0_26 a0_27 a0_28 a0_29 a0_30 a0_31 a0_32 a0_33 a0_34 a0_35 a0_36 a0_37 a0_38 a0_39 a0_40 a0_41 a0_42 a0_43 a0_44 a0_45 a0_46 a0_47 a0_48 a0_49 a0_50 a0_51 a0_52 a0_53 a0_54 a0_55 a0_56 a0_57 a0_58 a0_59 a0_60 a0_61 a0_62 a0_63 a0_64 a0_65 a0_66 a0_67 a0_68 a0_69 a0_70 a0_71 a0_72 a0_73 a0_74 a0_75 a0_76 a1_0 a1_1 true a1_3 a1_4 a1_5) = some r := by rw [if_pos rfl] at H; exact H
              clear H
              have H := H1
              clear H1
              have H' := Aside0.mk H
              clear H
              go_wp2
              go_meet
              case rel => exact ⟨_, (Go.bits .or .u64 x5_9 2048), (by first | rfl | (simp; done) | (simp [*]; done)), H', ⟨by have := HJ2.out; have := HJ9.out; first | omega | exact Nat.le_refl _⟩, ⟨by (with_reducible repeat (first | refine blk_drewN ?_ _ | refine blk_drew ?_ | refine blk_alloc ?_ _)); exact BK103.out⟩, ⟨by (with_reducible repeat (first | refine blk_drewN ?_ _ | refine blk_drew ?_ | refine blk_alloc ?_ _)); exact BK104.out⟩, ⟨by repeat (first | (with_reducible first | exact HB.out | apply below_alloc | apply pw_below_drewN | apply below_drew1 | refine below_set ?_ GE103.out | refine below_set ?_ GE104.out) | exact HB.out)⟩⟩
            · replace c17 := Bool.eq_false_iff.mpr c17
              subst c17
              have H1 : (mezzanineref12_Pending.j2 kj9 x5_9 a0_0 a0_1 a0_2 a0_3 a0_4 a0_5 a0_6 a0_7 a0_8 a0_9 a0_10 a0_11 a0_12 a0_13 a0_14 a0_15 a0_16 a0_17 a0_18 a0_19 a0_20 a0_21 a0_22 a0_23 a0_24 a0_25 a0_26 a0_27 a0_28 a0_29 a0_30 a0_31 a0_32 a0_33 a0_34 a0_35 a0_36 a0_37 a0_38 a0_39 a0_40 a0_41 a0_42 a0_43 a0_44 a0_45 a0_46 a0_47 a0_48 a0_49 a0_50 a0_51 a0_52 a0_53 a0_54 a0_55 a0_56 a0_57 a0_58 a0_59 a0_60 a0_61 a0_62 a0_63 a0_64 a0_65 a0_66 a0_67 a0_68 a0_69 a0_70 a0_71 a0_72 a0_73 a0_74 a0_75 a0_76 a1_0 a1_1 false a1_3 a1_4 a1_5) = some r := by rw [if_neg (show ¬ (false = true) by decide)] at H; exact H
              clear H
              have H := H1
              clear H1
              have H' := Aside0.mk H
              clear H
              go_wp2
              go_meet
              case rel => exact ⟨_, (x5_9), (by first | rfl | (simp; done) | (simp [*]; done)), H', ⟨by have := HJ2.out; have := HJ9.out; first | omega | exact Nat.le_refl _⟩, ⟨by (with_reducible repeat (first | refine blk_drewN ?_ _ | refine blk_drew ?_ | refine blk_alloc ?_ _)); exact BK103.out⟩, ⟨by (with_reducible repeat (first | refine blk_drewN ?_ _ | refine blk_drew ?_ | refine blk_alloc ?_ _)); exact BK104.out⟩, ⟨by repeat (first | (with_reducible first | exact HB.out | apply below_alloc | apply pw_below_drewN | apply below_drew1 | refine below_set ?_ GE103.out | refine below_set ?_ GE104.out) | exact HB.out)⟩⟩
          case rest =>
            clear HC14
            try clear c1
            try clear p2
            try clear c6
            try clear c9
            try clear c11
            try clear c12
            try clear c13
            try clear c15
            try clear c17
            try clear hcz12_0
            try clear hcz12_1
            try clear hcz12_2
            try clear hcz12_3
            try clear hcz12_4
            try clear hcz12_5
            try clear hcz16_0
            try clear hcz16_1
            try clear hcz16_2
            try clear hcz16_3
            try clear hcz16_4
            try clear hcz16_5
            try clear hcz7_42
            try clear hcz7_58
            try clear hcz7_61
            try clear hcz7_63
            try clear hcz8_0
            try clear hcz8_1
            try clear hcz8_2
            try clear hcz8_3
            try clear hcz8_4
            try clear hcz8_5
            try clear hfz12_0
            try clear hfz12_1
            try clear hfz12_2
            try clear hfz12_3
            try clear hfz12_4
            try clear hfz12_5
            try clear hfz16_0
            try clear hfz16_1
            try clear hfz16_2
            try clear hfz16_3
            try clear hfz16_4
            try clear hfz16_5
            try clear hfz7_42
            try clear hfz7_58
            try clear hfz7_61
            try clear hfz7_63
            try clear hfz8_0
            try clear hfz8_1
            try clear hfz8_2
            try clear hfz8_3
            try clear hfz8_4
            try clear hfz8_5
            try clear p2
            obtain ⟨kq, x5_13, rfl, HA, HJ13, BK103, BK104, HB⟩ := hcut
            cases kq with
            | zero => exact absurd HA.out (by simp [mezzanineref12_Pending.j2])
            | succ kj13 =>
              have H := HA.out
              clear HA
              simp only [mezzanineref12_Pending.j2] at H
              have HC18 := Aside0.mk H
              clear H
              have hnb19 := NB104_103.out
              have hnc19 := NB103_104.out
              have hcz20_0 : wc.cell? ⟨gb104, 0, none⟩ = some (.bool a1_0) := (blk_cell BK104.out 0).trans rfl
              have hcz20_1 : wc.cell? ⟨gb104, 1, none⟩ = some (.bool a1_1) := (blk_cell BK104.out 1).trans rfl
              have hcz20_2 : wc.cell? ⟨gb104, 2, none⟩ = some (.bool a1_2) := (blk_cell BK104.out 2).trans rfl
              have hcz20_3 : wc.cell? ⟨gb104, 3, none⟩ = some (.bool a1_3) := (blk_cell BK104.out 3).trans rfl
              have hcz20_4 : wc.cell? ⟨gb104, 4, none⟩ = some (.int .u64 a1_4) := (blk_cell BK104.out 4).trans rfl
              have hcz20_5 : wc.cell? ⟨gb104, 5, none⟩ = some (.int .u64 a1_5) := (blk_cell BK104.out 5).trans rfl
              have hfz20_0 := blk_frozen BK104.out 0
              have hfz20_1 := blk_frozen BK104.out 1
              have hfz20_2 := blk_frozen BK104.out 2
              have hfz20_3 := blk_frozen BK104.out 3
              have hfz20_4 := blk_frozen BK104.out 4
              have hfz20_5 := blk_frozen BK104.out 5
              go_upto_if 24 with (fail)
              go_cut [5] (fun v5 wc => ∃ (kq : Nat) (x5_17 : Int), v5 = .int .u64 x5_17 ∧ Aside0 (mezzanineref12_Pending.j3 kq x5_17 a0_0 a0_1 a0_2 a0_3 a0_4 a0_5 a0_6 a0_7 a0_8 a0_9 a0_10 a0_11 a0_12 a0_13 a0_14 a0_15 a0_16 a0_17 a0_18 a0_19 a0_20 a0_21 a0_22 a0_23 a0_24 a0_25 a0_26 a0_27 a0_28 a0_29 a0_30 a0_31 a0_32 a0_33 a0_34 a0_35 a0_36 a0_37 a0_38 a0_39 a0_40 a0_41 a0_42 a0_43 a0_44 a0_45 a0_46 a0_47 a0_48 a0_49 a0_50 a0_51 a0_52 a0_53 a0_54 a0_55 a0_56 a0_57 a0_58 a0_59 a0_60 a0_61 a0_62 a0_63 a0_64 a0_65 a0_66 a0_67 a0_68 a0_69 a0_70 a0_71 a0_72 a0_73 a0_74 a0_75 a0_76 a1_0 a1_1 a1_2 a1_3 a1_4 a1_5 = some r) ∧ Aside0 (kq ≤ kj13) ∧ Aside0 (wc.heap[gb103]? = some (.cells #[.int .u64 a0_0, .int .u64 a0_1, .int .u64 a0_2, .int .u64 a0_3, .int .u64 a0_4, .int .u64 a0_5, .int .u64 a0_6, .int .u64 a0_7, .int .u64 a0_8, .int .u64 a0_9, .int .u64 a0_10, .int .u64 a0_11, .int .u64 a0_12, .int .u64 a0_13, .int .u64 a0_14, .int .u64 a0_15, .int .u64 a0_16, .int .u64 a0_17, .int .u64 a0_18, .int .u64 a0_19, .int .u64 a0_20, .int .u64 a0_21, .int .u64 a0_22, .int .u64 a0_23, .int .u64 a0_24, .int .u64 a0_25, .int .u64 a0_26, .int .u64 a0_27, .int .u64 a0_28, .int .u64 a0_29, .int .u64 a0_30, .int .u64 a0_31, .int .u64 a0_32, .int .u8 a0_33, .bool a0_34, .bool a0_35, .bool a0_36, .int .u64 a0_37, .int .u64 a0_38, .int .u64 a0_39, .int .u64 a0_40, .int .u64 a0_41, .int .u64 a0_42, .int .u64 a0_43, .int .u64 a0_44, .int .u64 a0_45, .int .u64 a0_46, .int .u64 a0_47, .int .u64 a0_48, .int .u64 a0_49, .int .u64 a0_50, .int .u64 a0_51, .int .u64 a0_52, .int .u64 a0_53, .int .u64 a0_54, .int .u64 a0_55, .int .u64 a0_56, .int .u64 a0_57, .int .u64 a0_58, .int .u64 a0_59, .int .u64 a0_60, .int .u64 a0_61, .int .u64 a0_62, .int .u64 a0_63, .int .u64 a0_64, .int .u64 a0_65, .int .u64 a0_66, .int .u64 a0_67, .int .u64 a0_68, .int .u64 a0_69, .int .u64 a0_70, .int .u64 a0_71, .int .u64 a0_72, .int .u64 a0_73, .int .u64 a0_74, .int .u64 a0_75, .int .u64 a0_76] 25 (0, 0))) ∧ Aside0 (wc.heap[gb104]? = some (.cells #[.bool a1_0, .bool a1_1, .bool a1_2, .bool a1_3, .int .u64 a1_4, .int .u64 a1_5] 27 (0, 0))) ∧ Aside0 (Below w.heap.size w wc))
              case first =>
                have H := HC18.out
                clear HC18
                by_cases c21 : a1_3 = true
                · subst c21
                  have H1 : (mezzanineref12_Pending.j3 kj13 (Go.bits .or .u64 x5_13 512) a0_0 a0_1 a0_2 a0_3 a0_4 a0_5 a0_6 a0_7 a0_8 a0_9 a0_10 a0_11 a0_12 a0_13 a0_14 a0_15 a0_16 a0_17 a0_18 a0_19 a0_20 a0_21 a0_22 a0_23 a0_24 a0_25 a0_26 a0_27 a0_28 a0_29 a0_30 a0_31 a0_32 a0_33 a0_34 a0_35 a0_36 a0_37 a0_38 a0_39 a0_40 a0_41 a0_42 a0_43 a0_44 a0_45 a0_46 a0_47 a0_48 a0_49 a0_50 a0_51 a0_52 a0_53 a0_54 a0_55 a0_56 a0_57 a0_58 a0_59 a0_60 a0_61 a0_62 a0_63 a0_64 a0_65 a0_66 a0_67 a0_68 a0_69 a0_70 a0_71 a0_72 a0_73 a0_74 a0_75 a0_76 a1_0 a1_1 a1_2 true a1_4 a1_5) = some r := by rw [if_pos rfl] at H; exact H
                  clear H
                  have H := H1
                  clear H1
                  have H' := Aside0.mk H
                  clear H
                  go_wp2
                  go_meet
                  case rel => exact ⟨_, (Go.bits .or .u64 x5_13 512), (by first | rfl | (simp; done) | (simp [*]; done)), H', ⟨by have := HJ2.out; have := HJ9.out; have := HJ13.out; first | omega | exact Nat.le_refl _⟩, ⟨by (with_reducible repeat (first | refine blk_drewN ?_ _ | refine blk_drew ?_ | refine blk_alloc ?_ _)); exact BK103.out⟩, ⟨by (with_reducible repeat (first | refine blk_drewN ?_ _ | refine blk_drew ?_ | refine blk_alloc ?_ _)); exact BK104.out⟩, ⟨by repeat (first | (with_reducible first | exact HB.out | apply below_alloc | apply pw_below_drewN | apply below_drew1 | refine below_set ?_ GE103.out | refine below_set ?_ GE104.out) | exact HB.out)⟩⟩
                · replace c21 := Bool.eq_false_iff.mpr c21
                  subst c21
                  have H1 : (mezzanineref12_Pending.j3 kj13 x5_13 a0_0 a0_1 a0_2 a0_3 a0_4 a0_5 a0_6 a0_7 a0_8 a0_9 a0_10 a0_11 a0_12 a0_13 a0_14 a0_15 a0_16 a0_17 a0_18 a0_19 a0_20 a0_21 a0_22 a0_23 a0_24 a0_25 a0_26 a0_27 a0_28 a0_29 a0_30 a0_31 a0_32 a0_33 a0_34 a0_35 a0_36 a0_37 a0_38 a0_39 a0_40 a0_41 a0_42 a0_43 a0_44 a0_45 a0_46 a0_47 a0_48 a0_49 a0_50 a0_51 a0_52 a0_53 a0_54 a0_55 a0_56 a0_57 a0_58 a0_59 a0_60 a0_61 a0_62 a0_63 a0_64 a0_65 a0_66 a0_67 a0_68 a0_69 a0_70 a0_71 a0_72 a0_73 a0_74 a0_75 a0_76 a1_0 a1_1 a1_2 false a1_4 a1_5) = some r := by rw [if_neg (show ¬ (false = true) by decide)] at H; exact H
                  clear H
                  have H := H1
                  clear H1
                  have H' := Aside0.mk H
                  clear H
                  go_wp2
                  go_meet
                  case rel => exact ⟨_, (x5_13), (by first | rfl | (simp; done) | (simp [*]; done)), H', ⟨by have := HJ2.out; have := HJ9.out; have := HJ13.out; first | omega | exact Nat.le_refl _⟩, ⟨by (with_reducible repeat (first | refine blk_drewN ?_ _ | refine blk_drew ?_ | refine blk_alloc ?_ _)); exact BK103.out⟩, ⟨by (with_reducible repeat (first | refine blk_drewN ?_ _ | refine blk_drew ?_ | refine blk_alloc ?_ _)); exact BK104.out⟩, ⟨by repeat (first | (with_reducible first | exact HB.out | apply below_alloc | apply pw_below_drewN | apply below_drew1 | refine below_set ?_ GE103.out | refine below_set ?_ GE104.out) | exact HB.out)⟩⟩
              case rest =>
                clear HC18
                try clear c1
                try clear c2
                try clear p2
                try clear c6
                try clear c9
                try clear c11
                try clear c12
                try clear c13
                try clear c15
                try clear c17
                try clear c19
                try clear c21
                try clear hcz12_0
                try clear hcz12_1
                try clear hcz12_2
                try clear hcz12_3
                try clear hcz12_4
                try clear hcz12_5
                try clear hcz16_0
                try clear hcz16_1
                try clear hcz16_2
                try clear hcz16_3
                try clear hcz16_4
                try clear hcz16_5
                try clear hcz20_0
                try clear hcz20_1
                try clear hcz20_2
                try clear hcz20_3
                try clear hcz20_4
                try clear hcz20_5
                try clear hcz7_42
                try clear hcz7_58
                try clear hcz7_61
                try clear hcz7_63
                try clear hcz8_0
                try clear hcz8_1
                try clear hcz8_2
                try clear hcz8_3
                try clear hcz8_4
                try clear hcz8_5
                try clear hfz12_0
                try clear hfz12_1
                try clear hfz12_2
                try clear hfz12_3
                try clear hfz12_4
                try clear hfz12_5
                try clear hfz16_0
                try clear hfz16_1
                try clear hfz16_2
                try clear hfz16_3
                try clear hfz16_4
                try clear hfz16_5
                try clear hfz20_0
                try clear hfz20_1
                try clear hfz20_2
                try clear hfz20_3
                try clear hfz20_4
                try clear hfz20_5
                try clear hfz7_42
                try clear hfz7_58
                try clear hfz7_61
                try clear hfz7_63
                try clear hfz8_0
                try clear hfz8_1
                try clear hfz8_2
                try clear hfz8_3
                try clear hfz8_4
                try clear hfz8_5
                try clear p2
                obtain ⟨kq, x5_17, rfl, HA, HJ17, BK103, BK104, HB⟩ := hcut
                cases kq with
                | zero => exact absurd HA.out (by simp [mezzanineref12_Pending.j3])
                | succ kj17 =>
                  have H := HA.out
                  clear HA
                  simp only [mezzanineref12_Pending.j3] at H
                  have HC22 := Aside0.mk H
                  clear H
                  go_upto_region 10 with (fail)
                  go_cut [34] (fun v34 wc => ∃ (kq : Nat) (x34_21 : Bool), v34 = .bool x34_21 ∧ Aside0 (mezzanineref12_Pending.j4 kq x5_17 x34_21 a0_0 a0_1 a0_2 a0_3 a0_4 a0_5 a0_6 a0_7 a0_8 a0_9 a0_10 a0_11 a0_12 a0_13 a0_14 a0_15 a0_16 a0_17 a0_18 a0_19 a0_20 a0_21 a0_22 a0_23 a0_24 a0_25 a0_26 a0_27 a0_28 a0_29 a0_30 a0_31 a0_32 a0_33 a0_34 a0_35 a0_36 a0_37 a0_38 a0_39 a0_40 a0_41 a0_42 a0_43 a0_44 a0_45 a0_46 a0_47 a0_48 a0_49 a0_50 a0_51 a0_52 a0_53 a0_54 a0_55 a0_56 a0_57 a0_58 a0_59 a0_60 a0_61 a0_62 a0_63 a0_64 a0_65 a0_66 a0_67 a0_68 a0_69 a0_70 a0_71 a0_72 a0_73 a0_74 a0_75 a0_76 a1_0 a1_1 a1_2 a1_3 a1_4 a1_5 = some r) ∧ Aside0 (kq ≤ kj17) ∧ Aside0 (wc.heap[gb103]? = some (.cells #[.int .u64 a0_0, .int .u64 a0_1, .int .u64 a0_2, .int .u64 a0_3, .int .u64 a0_4, .int .u64 a0_5, .int .u64 a0_6, .int .u64 a0_7, .int .u64 a0_8, .int .u64 a0_9, .int .u64 a0_10, .int .u64 a0_11, .int .u64 a0_12, .int .u64 a0_13, .int .u64 a0_14, .int .u64 a0_15, .int .u64 a0_16, .int .u64 a0_17, .int .u64 a0_18, .int .u64 a0_19, .int .u64 a0_20, .int .u64 a0_21, .int .u64 a0_22, .int .u64 a0_23, .int .u64 a0_24, .int .u64 a0_25, .int .u64 a0_26, .int .u64 a0_27, .int .u64 a0_28, .int .u64 a0_29, .int .u64 a0_30, .int .u64 a0_31, .int .u64 a0_32, .int .u8 a0_33, .bool a0_34, .bool a0_35, .bool a0_36, .int .u64 a0_37, .int .u64 a0_38, .int .u64 a0_39, .int .u64 a0_40, .int .u64 a0_41, .int .u64 a0_42, .int .u64 a0_43, .int .u64 a0_44, .int .u64 a0_45, .int .u64 a0_46, .int .u64 a0_47, .int .u64 a0_48, .int .u64 a0_49, .int .u64 a0_50, .int .u64 a0_51, .int .u64 a0_52, .int .u64 a0_53, .int .u64 a0_54, .int .u64 a0_55, .int .u64 a0_56, .int .u64 a0_57, .int .u64 a0_58, .int .u64 a0_59, .int .u64 a0_60, .int .u64 a0_61, .int .u64 a0_62, .int .u64 a0_63, .int .u64 a0_64, .int .u64 a0_65, .int .u64 a0_66, .int .u64 a0_67, .int .u64 a0_68, .int .u64 a0_69, .int .u64 a0_70, .int .u64 a0_71, .int .u64 a0_72, .int .u64 a0_73, .int .u64 a0_74, .int .u64 a0_75, .int .u64 a0_76] 25 (0, 0))) ∧ Aside0 (wc.heap[gb104]? = some (.cells #[.bool a1_0, .bool a1_1, .bool a1_2, .bool a1_3, .int .u64 a1_4, .int .u64 a1_5] 27 (0, 0))) ∧ Aside0 (Below w.heap.size w wc))
                  case first =>
                    have H := HC22.out
                    clear HC22
                    replace H := Option.bind_eq_some_iff.mp H
                    obtain ⟨t105, A230, H⟩ := H
                    replace H : (if t105 = true then ((mezzanineref12_bit.f a1_4 1).bind fun t106 => (mezzanineref12_Pending.j4 kj17 x5_17 t106 a0_0 a0_1 a0_2 a0_3 a0_4 a0_5 a0_6 a0_7 a0_8 a0_9 a0_10 a0_11 a0_12 a0_13 a0_14 a0_15 a0_16 a0_17 a0_18 a0_19 a0_20 a0_21 a0_22 a0_23 a0_24 a0_25 a0_26 a0_27 a0_28 a0_29 a0_30 a0_31 a0_32 a0_33 a0_34 a0_35 a0_36 a0_37 a0_38 a0_39 a0_40 a0_41 a0_42 a0_43 a0_44 a0_45 a0_46 a0_47 a0_48 a0_49 a0_50 a0_51 a0_52 a0_53 a0_54 a0_55 a0_56 a0_57 a0_58 a0_59 a0_60 a0_61 a0_62 a0_63 a0_64 a0_65 a0_66 a0_67 a0_68 a0_69 a0_70 a0_71 a0_72 a0_73 a0_74 a0_75 a0_76 a1_0 a1_1 a1_2 a1_3 a1_4 a1_5)) else (mezzanineref12_Pending.j4 kj17 x5_17 false a0_0 a0_1 a0_2 a0_3 a0_4 a0_5 a0_6 a0_7 a0_8 a0_9 a0_10 a0_11 a0_12 a0_13 a0_14 a0_15 a0_16 a0_17 a0_18 a0_19 a0_20 a0_21 a0_22 a0_23 a0_24 a0_25 a0_26 a0_27 a0_28 a0_29 a0_30 a0_31 a0_32 a0_33 a0_34 a0_35 a0_36 a0_37 a0_38 a0_39 a0_40 a0_41 a0_42 a0_43 a0_44 a0_45 a0_46 a0_47 a0_48 a0_49 a0_50 a0_51 a0_52 a0_53 a0_54 a0_55 a0_56 a0_57 a0_58 a0_59 a0_60 a0_61 a0_62 a0_63 a0_64 a0_65 a0_66 a0_67 a0_68 a0_69 a0_70 a0_71 a0_72 a0_73 a0_74 a0_75 a0_76 a1_0 a1_1 a1_2 a1_3 a1_4 a1_5)) = some r := H
                    have A23 := Aside0.mk A230
                    clear A230
                    by_cases c24 : t105 = true
                    · subst c24
                      have H1 : ((mezzanineref12_bit.f a1_4 1).bind fun t106 => (mezzanineref12_Pending.j4 kj17 x5_17 t106 a0_0 a0_1 a0_2 a0_3 a0_4 a0_5 a0_6 a0_7 a0_8 a0_9 a0_10 a0_11 a0_12 a0_13 a0_14 a0_15 a0_16 a0_17 a0_18 a0_19 a0_20 a0_21 a0_22 a0_23 a0_24 a0_25 a0_26 a0_27 a0_28 a0_29 a0_30 a0_31 a0_32 a0_33 a0_34 a0_35 a0_36 a0_37 a0_38 a0_39 a0_40 a0_41 a0_42 a0_43 a0_44 a0_45 a0_46 a0_47 a0_48 a0_49 a0_50 a0_51 a0_52 a0_53 a0_54 a0_55 a0_56 a0_57 a0_58 a0_59 a0_60 a0_61 a0_62 a0_63 a0_64 a0_65 a0_66 a0_67 a0_68 a0_69 a0_70 a0_71 a0_72 a0_73 a0_74 a0_75 a0_76 a1_0 a1_1 a1_2 a1_3 a1_4 a1_5)) = some r := by rw [if_pos rfl] at H; exact H
                      clear H
                      have H := H1
                      clear H1
                      replace H := Option.bind_eq_some_iff.mp H
                      obtain ⟨t106, A250, H⟩ := H
                      replace H : (mezzanineref12_Pending.j4 kj17 x5_17 t106 a0_0 a0_1 a0_2 a0_3 a0_4 a0_5 a0_6 a0_7 a0_8 a0_9 a0_10 a0_11 a0_12 a0_13 a0_14 a0_15 a0_16 a0_17 a0_18 a0_19 a0_20 a0_21 a0_22 a0_23 a0_24 a0_25 a0_26 a0_27 a0_28 a0_29 a0_30 a0_31 a0_32 a0_33 a0_34 a0_35 a0_36 a0_37 a0_38 a0_39 a0_40 a0_41 a0_42 a0_43 a0_44 a0_45 a0_46 a0_47 a0_48 a0_49 a0_50 a0_51 a0_52 a0_53 a0_54 a0_55 a0_56 a0_57 a0_58 a0_59 a0_60 a0_61 a0_62 a0_63 a0_64 a0_65 a0_66 a0_67 a0_68 a0_69 a0_70 a0_71 a0_72 a0_73 a0_74 a0_75 a0_76 a1_0 a1_1 a1_2 a1_3 a1_4 a1_5) = some r := H
                      have A25 := Aside0.mk A250
                      clear A250
                      have H' := Aside0.mk H
                      clear H
                      have hnb26 := NB103_104.out
                      have hnc26 := NB104_103.out
                      have hcz27_42 : wc.cell? ⟨gb103, 42, none⟩ = some (.int .u64 a0_42) := (blk_cell BK103.out 42).trans rfl
                      have hcz27_58 : wc.cell? ⟨gb103, 58, none⟩ = some (.int .u64 a0_58) := (blk_cell BK103.out 58).trans rfl
                      have hcz27_61 : wc.cell? ⟨gb103, 61, none⟩ = some (.int .u64 a0_61) := (blk_cell BK103.out 61).trans rfl
                      have hcz27_63 : wc.cell? ⟨gb103, 63, none⟩ = some (.int .u64 a0_63) := (blk_cell BK103.out 63).trans rfl
                      have hfz27_42 := blk_frozen BK103.out 42
                      have hfz27_58 := blk_frozen BK103.out 58
                      have hfz27_61 := blk_frozen BK103.out 61
                      have hfz27_63 := blk_frozen BK103.out 63
                      go_wp2_with (first | ((with_reducible refine gate_callee (f := 26) rfl ?_); refine goesL_ (some 29) rfl rfl Tryd.func26 (by kernel_rfl) rfl #[.int .u64 a0_58, .int .u64 12] rfl (by (try simp only [List.map_toArray, List.map_cons, List.map_nil]); first | done | rfl | (simp only [List.length_drop, List.length_take]; rfl)) ?_; (with_reducible refine (mezzanineref12_bit.calls a0_58 12 true _ A23.out).mono ?_); rintro e w' ⟨rfl, ⟨nd, rfl⟩⟩; refine ⟨_, rfl, ?_⟩; have hcz28_0 : wc.cell? ⟨gb104, 0, none⟩ = some (.bool a1_0) := (blk_cell BK104.out 0).trans rfl; have hcz28_1 : wc.cell? ⟨gb104, 1, none⟩ = some (.bool a1_1) := (blk_cell BK104.out 1).trans rfl; have hcz28_2 : wc.cell? ⟨gb104, 2, none⟩ = some (.bool a1_2) := (blk_cell BK104.out 2).trans rfl; have hcz28_3 : wc.cell? ⟨gb104, 3, none⟩ = some (.bool a1_3) := (blk_cell BK104.out 3).trans rfl; have hcz28_4 : wc.cell? ⟨gb104, 4, none⟩ = some (.int .u64 a1_4) := (blk_cell BK104.out 4).trans rfl; have hcz28_5 : wc.cell? ⟨gb104, 5, none⟩ = some (.int .u64 a1_5) := (blk_cell BK104.out 5).trans rfl; have hfz28_0 := blk_frozen BK104.out 0; have hfz28_1 := blk_frozen BK104.out 1; have hfz28_2 := blk_frozen BK104.out 2; have hfz28_3 := blk_frozen BK104.out 3; have hfz28_4 := blk_frozen BK104.out 4; have hfz28_5 := blk_frozen BK104.out 5) | (go_at_call 26; (with_reducible refine (mezzanineref12_bit.calls a1_4 1 t106 _ A25.out).mono ?_); rintro e w' ⟨rfl, ⟨nd, rfl⟩⟩))
                      go_meet
                      case rel => exact ⟨_, (t106), (by first | rfl | (simp; done) | (simp [*]; done)), H', ⟨by have := HJ2.out; have := HJ9.out; have := HJ13.out; have := HJ17.out; first | omega | exact Nat.le_refl _⟩, ⟨by (with_reducible repeat (first | refine blk_drewN ?_ _ | refine blk_drew ?_ | refine blk_alloc ?_ _)); exact BK103.out⟩, ⟨by (with_reducible repeat (first | refine blk_drewN ?_ _ | refine blk_drew ?_ | refine blk_alloc ?_ _)); exact BK104.out⟩, ⟨by repeat (first | (with_reducible first | exact HB.out | apply below_alloc | apply pw_below_drewN | apply below_drew1 | refine below_set ?_ GE103.out | refine below_set ?_ GE104.out) | exact HB.out)⟩⟩
                    · replace c24 := Bool.eq_false_iff.mpr c24
                      subst c24
                      have H1 : (mezzanineref12_Pending.j4 kj17 x5_17 false a0_0 a0_1 a0_2 a0_3 a0_4 a0_5 a0_6 a0_7 a0_8 a0_9 a0_10 a0_11 a0_12 a0_13 a0_14 a0_15 a0_16 a0_17 a0_18 a0_19 a0_20 a0_21 a0_22 a0_23 a0_24 a0_25 a0_26 a0_27 a0_28 a0_29 a0_30 a0_31 a0_32 a0_33 a0_34 a0_35 a0_36 a0_37 a0_38 a0_39 a0_40 a0_41 a0_42 a0_43 a0_44 a0_45 a0_46 a0_47 a0_48 a0_49 a0_50 a0_51 a0_52 a0_53 a0_54 a0_55 a0_56 a0_57 a0_58 a0_59 a0_60 a0_61 a0_62 a0_63 a0_64 a0_65 a0_66 a0_67 a0_68 a0_69 a0_70 a0_71 a0_72 a0_73 a0_74 a0_75 a0_76 a1_0 a1_1 a1_2 a1_3 a1_4 a1_5) = some r := by rw [if_neg (show ¬ (false = true) by decide)] at H; exact H
                      clear H
                      have H := H1
                      clear H1
                      have H' := Aside0.mk H
                      clear H
                      have hnb29 := NB103_104.out
                      have hnc29 := NB104_103.out
                      have hcz30_42 : wc.cell? ⟨gb103, 42, none⟩ = some (.int .u64 a0_42) := (blk_cell BK103.out 42).trans rfl
                      have hcz30_58 : wc.cell? ⟨gb103, 58, none⟩ = some (.int .u64 a0_58) := (blk_cell BK103.out 58).trans rfl
                      have hcz30_61 : wc.cell? ⟨gb103, 61, none⟩ = some (.int .u64 a0_61) := (blk_cell BK103.out 61).trans rfl
                      have hcz30_63 : wc.cell? ⟨gb103, 63, none⟩ = some (.int .u64 a0_63) := (blk_cell BK103.out 63).trans rfl
                      have hfz30_42 := blk_frozen BK103.out 42
                      have hfz30_58 := blk_frozen BK103.out 58
                      have hfz30_61 := blk_frozen BK103.out 61
                      have hfz30_63 := blk_frozen BK103.out 63
                      go_wp2_with (first | ((with_reducible refine gate_callee (f := 26) rfl ?_); refine goesL_ (some 29) rfl rfl Tryd.func26 (by kernel_rfl) rfl #[.int .u64 a0_58, .int .u64 12] rfl (by (try simp only [List.map_toArray, List.map_cons, List.map_nil]); first | done | rfl | (simp only [List.length_drop, List.length_take]; rfl)) ?_; (with_reducible refine (mezzanineref12_bit.calls a0_58 12 false _ A23.out).mono ?_); rintro e w' ⟨rfl, ⟨nd, rfl⟩⟩; refine ⟨_, rfl, ?_⟩))
                      go_meet
                      case rel => exact ⟨_, (false), (by first | rfl | (simp; done) | (simp [*]; done)), H', ⟨by have := HJ2.out; have := HJ9.out; have := HJ13.out; have := HJ17.out; first | omega | exact Nat.le_refl _⟩, ⟨by (with_reducible repeat (first | refine blk_drewN ?_ _ | refine blk_drew ?_ | refine blk_alloc ?_ _)); exact BK103.out⟩, ⟨by (with_reducible repeat (first | refine blk_drewN ?_ _ | refine blk_drew ?_ | refine blk_alloc ?_ _)); exact BK104.out⟩, ⟨by repeat (first | (with_reducible first | exact HB.out | apply below_alloc | apply pw_below_drewN | apply below_drew1 | refine below_set ?_ GE103.out | refine below_set ?_ GE104.out) | exact HB.out)⟩⟩
                  case rest =>
                    clear HC22
                    try clear c1
                    try clear c2
                    try clear p2
                    try clear c6
                    try clear c9
                    try clear c11
                    try clear c12
                    try clear c13
                    try clear c15
                    try clear c17
                    try clear c19
                    try clear c21
                    try clear c24
                    try clear c26
                    try clear c29
                    try clear hcz12_0
                    try clear hcz12_1
                    try clear hcz12_2
                    try clear hcz12_3
                    try clear hcz12_4
                    try clear hcz12_5
                    try clear hcz16_0
                    try clear hcz16_1
                    try clear hcz16_2
                    try clear hcz16_3
                    try clear hcz16_4
                    try clear hcz16_5
                    try clear hcz20_0
                    try clear hcz20_1
                    try clear hcz20_2
                    try clear hcz20_3
                    try clear hcz20_4
                    try clear hcz20_5
                    try clear hcz27_42
                    try clear hcz27_58
                    try clear hcz27_61
                    try clear hcz27_63
                    try clear hcz28_0
                    try clear hcz28_1
                    try clear hcz28_2
                    try clear hcz28_3
                    try clear hcz28_4
                    try clear hcz28_5
                    try clear hcz30_42
                    try clear hcz30_58
                    try clear hcz30_61
                    try clear hcz30_63
                    try clear hcz7_42
                    try clear hcz7_58
                    try clear hcz7_61
                    try clear hcz7_63
                    try clear hcz8_0
                    try clear hcz8_1
                    try clear hcz8_2
                    try clear hcz8_3
                    try clear hcz8_4
                    try clear hcz8_5
                    try clear hfz12_0
                    try clear hfz12_1
                    try clear hfz12_2
                    try clear hfz12_3
                    try clear hfz12_4
                    try clear hfz12_5
                    try clear hfz16_0
                    try clear hfz16_1
                    try clear hfz16_2
                    try clear hfz16_3
                    try clear hfz16_4
                    try clear hfz16_5
                    try clear hfz20_0
                    try clear hfz20_1
                    try clear hfz20_2
                    try clear hfz20_3
                    try clear hfz20_4
                    try clear hfz20_5
                    try clear hfz27_42
                    try clear hfz27_58
                    try clear hfz27_61
                    try clear hfz27_63
                    try clear hfz28_0
                    try clear hfz28_1
                    try clear hfz28_2
                    try clear hfz28_3
                    try clear hfz28_4
                    try clear hfz28_5
                    try clear hfz30_42
                    try clear hfz30_58
                    try clear hfz30_61
                    try clear hfz30_63
                    try clear hfz7_42
                    try clear hfz7_58
                    try clear hfz7_61
                    try clear hfz7_63
                    try clear hfz8_0
                    try clear hfz8_1
                    try clear hfz8_2
                    try clear hfz8_3
                    try clear hfz8_4
                    try clear hfz8_5
                    try clear p2
                    obtain ⟨kq, x34_21, rfl, HA, HJ21, BK103, BK104, HB⟩ := hcut
                    cases kq with
                    | zero => exact absurd HA.out (by simp [mezzanineref12_Pending.j4])
                    | succ kj21 =>
                      have H := HA.out
                      clear HA
                      simp only [mezzanineref12_Pending.j4] at H
                      by_cases c31 : x34_21 = true
                      · subst c31
                        have H1 : (if (Go.bits .and .u64 a1_4 a0_63) = 0 then (some (Go.bits .or .u64 x5_17 1024)) else (some (Go.bits .or .u64 (Go.bits .or .u64 x5_17 1024) 4096))) = some r := by rw [if_pos rfl] at H; exact H
                        clear H
                        have H := H1
                        clear H1
                        by_cases c32 : (Go.bits .and .u64 a1_4 a0_63) = 0
                        · rw [if_pos c32] at H
                          have c32b0 : ((Go.bits .and .u64 a1_4 a0_63) == 0) = true := beq_iff_eq.mpr c32
                          have c32b1 : ((Go.bits .and .u64 a1_4 a0_63) != 0) = false := bne_eq_false_iff_eq.mpr c32
                          clear c32
                          obtain rfl := Option.some.inj H
                          have hnb33 := NB104_103.out
                          have hnc33 := NB103_104.out
                          have hcz34_0 : wc.cell? ⟨gb104, 0, none⟩ = some (.bool a1_0) := (blk_cell BK104.out 0).trans rfl
                          have hcz34_1 : wc.cell? ⟨gb104, 1, none⟩ = some (.bool a1_1) := (blk_cell BK104.out 1).trans rfl
                          have hcz34_2 : wc.cell? ⟨gb104, 2, none⟩ = some (.bool a1_2) := (blk_cell BK104.out 2).trans rfl
                          have hcz34_3 : wc.cell? ⟨gb104, 3, none⟩ = some (.bool a1_3) := (blk_cell BK104.out 3).trans rfl
                          have hcz34_4 : wc.cell? ⟨gb104, 4, none⟩ = some (.int .u64 a1_4) := (blk_cell BK104.out 4).trans rfl
                          have hcz34_5 : wc.cell? ⟨gb104, 5, none⟩ = some (.int .u64 a1_5) := (blk_cell BK104.out 5).trans rfl
                          have hfz34_0 := blk_frozen BK104.out 0
                          have hfz34_1 := blk_frozen BK104.out 1
                          have hfz34_2 := blk_frozen BK104.out 2
                          have hfz34_3 := blk_frozen BK104.out 3
                          have hfz34_4 := blk_frozen BK104.out 4
                          have hfz34_5 := blk_frozen BK104.out 5
                          have hcz35_42 : wc.cell? ⟨gb103, 42, none⟩ = some (.int .u64 a0_42) := (blk_cell BK103.out 42).trans rfl
                          have hcz35_58 : wc.cell? ⟨gb103, 58, none⟩ = some (.int .u64 a0_58) := (blk_cell BK103.out 58).trans rfl
                          have hcz35_61 : wc.cell? ⟨gb103, 61, none⟩ = some (.int .u64 a0_61) := (blk_cell BK103.out 61).trans rfl
                          have hcz35_63 : wc.cell? ⟨gb103, 63, none⟩ = some (.int .u64 a0_63) := (blk_cell BK103.out 63).trans rfl
                          have hfz35_42 := blk_frozen BK103.out 42
                          have hfz35_58 := blk_frozen BK103.out 58
                          have hfz35_61 := blk_frozen BK103.out 61
                          have hfz35_63 := blk_frozen BK103.out 63
                          go_wp2
                          go_ret
                          exact ⟨by first | rfl | (simp [errW_none, errW_some] <;> rfl) | (simp [*, errW_none, errW_some] <;> rfl), by repeat (first | (with_reducible first | exact HB.out | apply below_alloc | apply pw_below_drewN | apply below_drew1 | refine below_set ?_ GE103.out | refine below_set ?_ GE104.out) | exact HB.out)⟩
                        · rw [if_neg c32] at H
                          have c32b0 : ((Go.bits .and .u64 a1_4 a0_63) == 0) = false := beq_eq_false_iff_ne.mpr c32
                          have c32b1 : ((Go.bits .and .u64 a1_4 a0_63) != 0) = true := bne_iff_ne.mpr c32
                          obtain rfl := Option.some.inj H
                          have hnb36 := NB104_103.out
                          have hnc36 := NB103_104.out
                          have hcz37_0 : wc.cell? ⟨gb104, 0, none⟩ = some (.bool a1_0) := (blk_cell BK104.out 0).trans rfl
                          have hcz37_1 : wc.cell? ⟨gb104, 1, none⟩ = some (.bool a1_1) := (blk_cell BK104.out 1).trans rfl
                          have hcz37_2 : wc.cell? ⟨gb104, 2, none⟩ = some (.bool a1_2) := (blk_cell BK104.out 2).trans rfl
                          have hcz37_3 : wc.cell? ⟨gb104, 3, none⟩ = some (.bool a1_3) := (blk_cell BK104.out 3).trans rfl
                          have hcz37_4 : wc.cell? ⟨gb104, 4, none⟩ = some (.int .u64 a1_4) := (blk_cell BK104.out 4).trans rfl
                          have hcz37_5 : wc.cell? ⟨gb104, 5, none⟩ = some (.int .u64 a1_5) := (blk_cell BK104.out 5).trans rfl
                          have hfz37_0 := blk_frozen BK104.out 0
                          have hfz37_1 := blk_frozen BK104.out 1
                          have hfz37_2 := blk_frozen BK104.out 2
                          have hfz37_3 := blk_frozen BK104.out 3
                          have hfz37_4 := blk_frozen BK104.out 4
                          have hfz37_5 := blk_frozen BK104.out 5
                          have hcz38_42 : wc.cell? ⟨gb103, 42, none⟩ = some (.int .u64 a0_42) := (blk_cell BK103.out 42).trans rfl
                          have hcz38_58 : wc.cell? ⟨gb103, 58, none⟩ = some (.int .u64 a0_58) := (blk_cell BK103.out 58).trans rfl
                          have hcz38_61 : wc.cell? ⟨gb103, 61, none⟩ = some (.int .u64 a0_61) := (blk_cell BK103.out 61).trans rfl
                          have hcz38_63 : wc.cell? ⟨gb103, 63, none⟩ = some (.int .u64 a0_63) := (blk_cell BK103.out 63).trans rfl
                          have hfz38_42 := blk_frozen BK103.out 42
                          have hfz38_58 := blk_frozen BK103.out 58
                          have hfz38_61 := blk_frozen BK103.out 61
                          have hfz38_63 := blk_frozen BK103.out 63
                          go_wp2
                          go_ret
                          exact ⟨by first | rfl | (simp [errW_none, errW_some] <;> rfl) | (simp [*, errW_none, errW_some] <;> rfl), by repeat (first | (with_reducible first | exact HB.out | apply below_alloc | apply pw_below_drewN | apply below_drew1 | refine below_set ?_ GE103.out | refine below_set ?_ GE104.out) | exact HB.out)⟩
                      · replace c31 := Bool.eq_false_iff.mpr c31
                        subst c31
                        have H1 : (if (Go.bits .and .u64 a1_4 a0_63) = 0 then (some x5_17) else (some (Go.bits .or .u64 x5_17 4096))) = some r := by rw [if_neg (show ¬ (false = true) by decide)] at H; exact H
                        clear H
                        have H := H1
                        clear H1
                        by_cases c39 : (Go.bits .and .u64 a1_4 a0_63) = 0
                        · rw [if_pos c39] at H
                          have c39b0 : ((Go.bits .and .u64 a1_4 a0_63) == 0) = true := beq_iff_eq.mpr c39
                          have c39b1 : ((Go.bits .and .u64 a1_4 a0_63) != 0) = false := bne_eq_false_iff_eq.mpr c39
                          clear c39
                          obtain rfl := Option.some.inj H
                          have hnb40 := NB104_103.out
                          have hnc40 := NB103_104.out
                          have hcz41_0 : wc.cell? ⟨gb104, 0, none⟩ = some (.bool a1_0) := (blk_cell BK104.out 0).trans rfl
                          have hcz41_1 : wc.cell? ⟨gb104, 1, none⟩ = some (.bool a1_1) := (blk_cell BK104.out 1).trans rfl
                          have hcz41_2 : wc.cell? ⟨gb104, 2, none⟩ = some (.bool a1_2) := (blk_cell BK104.out 2).trans rfl
                          have hcz41_3 : wc.cell? ⟨gb104, 3, none⟩ = some (.bool a1_3) := (blk_cell BK104.out 3).trans rfl
                          have hcz41_4 : wc.cell? ⟨gb104, 4, none⟩ = some (.int .u64 a1_4) := (blk_cell BK104.out 4).trans rfl
                          have hcz41_5 : wc.cell? ⟨gb104, 5, none⟩ = some (.int .u64 a1_5) := (blk_cell BK104.out 5).trans rfl
                          have hfz41_0 := blk_frozen BK104.out 0
                          have hfz41_1 := blk_frozen BK104.out 1
                          have hfz41_2 := blk_frozen BK104.out 2
                          have hfz41_3 := blk_frozen BK104.out 3
                          have hfz41_4 := blk_frozen BK104.out 4
                          have hfz41_5 := blk_frozen BK104.out 5
                          have hcz42_42 : wc.cell? ⟨gb103, 42, none⟩ = some (.int .u64 a0_42) := (blk_cell BK103.out 42).trans rfl
                          have hcz42_58 : wc.cell? ⟨gb103, 58, none⟩ = some (.int .u64 a0_58) := (blk_cell BK103.out 58).trans rfl
                          have hcz42_61 : wc.cell? ⟨gb103, 61, none⟩ = some (.int .u64 a0_61) := (blk_cell BK103.out 61).trans rfl
                          have hcz42_63 : wc.cell? ⟨gb103, 63, none⟩ = some (.int .u64 a0_63) := (blk_cell BK103.out 63).trans rfl
                          have hfz42_42 := blk_frozen BK103.out 42
                          have hfz42_58 := blk_frozen BK103.out 58
                          have hfz42_61 := blk_frozen BK103.out 61
                          have hfz42_63 := blk_frozen BK103.out 63
                          go_wp2
                          go_ret
                          exact ⟨by first | rfl | (simp [errW_none, errW_some] <;> rfl) | (simp [*, errW_none, errW_some] <;> rfl), by repeat (first | (with_reducible first | exact HB.out | apply below_alloc | apply pw_below_drewN | apply below_drew1 | refine below_set ?_ GE103.out | refine below_set ?_ GE104.out) | exact HB.out)⟩
                        · rw [if_neg c39] at H
                          have c39b0 : ((Go.bits .and .u64 a1_4 a0_63) == 0) = false := beq_eq_false_iff_ne.mpr c39
                          have c39b1 : ((Go.bits .and .u64 a1_4 a0_63) != 0) = true := bne_iff_ne.mpr c39
                          obtain rfl := Option.some.inj H
                          have hnb43 := NB104_103.out
                          have hnc43 := NB103_104.out
                          have hcz44_0 : wc.cell? ⟨gb104, 0, none⟩ = some (.bool a1_0) := (blk_cell BK104.out 0).trans rfl
                          have hcz44_1 : wc.cell? ⟨gb104, 1, none⟩ = some (.bool a1_1) := (blk_cell BK104.out 1).trans rfl
                          have hcz44_2 : wc.cell? ⟨gb104, 2, none⟩ = some (.bool a1_2) := (blk_cell BK104.out 2).trans rfl
                          have hcz44_3 : wc.cell? ⟨gb104, 3, none⟩ = some (.bool a1_3) := (blk_cell BK104.out 3).trans rfl
                          have hcz44_4 : wc.cell? ⟨gb104, 4, none⟩ = some (.int .u64 a1_4) := (blk_cell BK104.out 4).trans rfl
                          have hcz44_5 : wc.cell? ⟨gb104, 5, none⟩ = some (.int .u64 a1_5) := (blk_cell BK104.out 5).trans rfl
                          have hfz44_0 := blk_frozen BK104.out 0
                          have hfz44_1 := blk_frozen BK104.out 1
                          have hfz44_2 := blk_frozen BK104.out 2
                          have hfz44_3 := blk_frozen BK104.out 3
                          have hfz44_4 := blk_frozen BK104.out 4
                          have hfz44_5 := blk_frozen BK104.out 5
                          have hcz45_42 : wc.cell? ⟨gb103, 42, none⟩ = some (.int .u64 a0_42) := (blk_cell BK103.out 42).trans rfl
                          have hcz45_58 : wc.cell? ⟨gb103, 58, none⟩ = some (.int .u64 a0_58) := (blk_cell BK103.out 58).trans rfl
                          have hcz45_61 : wc.cell? ⟨gb103, 61, none⟩ = some (.int .u64 a0_61) := (blk_cell BK103.out 61).trans rfl
                          have hcz45_63 : wc.cell? ⟨gb103, 63, none⟩ = some (.int .u64 a0_63) := (blk_cell BK103.out 63).trans rfl
                          have hfz45_42 := blk_frozen BK103.out 42
                          have hfz45_58 := blk_frozen BK103.out 58
                          have hfz45_61 := blk_frozen BK103.out 61
                          have hfz45_63 := blk_frozen BK103.out 63
                          go_wp2
                          go_ret
                          exact ⟨by first | rfl | (simp [errW_none, errW_some] <;> rfl) | (simp [*, errW_none, errW_some] <;> rfl), by repeat (first | (with_reducible first | exact HB.out | apply below_alloc | apply pw_below_drewN | apply below_drew1 | refine below_set ?_ GE103.out | refine below_set ?_ GE104.out) | exact HB.out)⟩

end Go.Proofs.YtlopmcakfalkpaaDoor.Q
