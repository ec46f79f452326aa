/- Where the Lean function of a Go function gives a value, the Go call returns that value and changes nothing that was there: for every input. (By a program of this session, and by hand.) -/
import Derived.Test.YtfehchhmghpfpaaDoorQx0
import Derived.Test.YtfehchhmghpfpaaDoorQx3
namespace Go.Proofs.YtfehchhmghpfpaaDoor.Q
open Go.RowKit Go.Proofs.YtfehchhmghpfpaaDoorW.PrintWords Go.Proofs.YtfehchhmghpfpaaDoorW.PrintLast Go.Proofs.YtfehchhmghpfpaaDoorW.PrintMore
attribute [local go_sem] max2_int min2_int max_two min_two max_three min_three max_four min_four   -- for this text's walks alone
set_option linter.unusedVariables false
set_option linter.unusedSimpArgs false

/-! ### trap_To: function 7 -/
mutual
def trap_To.j0 : Nat → Int → Int → Int → Int → Int → Int → Int → Int → Int → Int → Int → Int → Int → Int → Int → Int → Int → Int → Int → Int → Int → Int → Int → Int → Int → Int → Int → Int → Int → Int → Int → Int → Int → Int → Int → Int → Int → Bool → Bool → Bool → Int → Int → Int → Int → Int → Int → Int → Int → Int → Int → Int → Int → Int → Int → Int → Int → Int → Int → Int → Int → Int → Int → Int → Int → Int → Int → Int → Int → Int → Int → Int → Int → Int → Int → Int → Int → Int → Int → Int → Int → Option (Int)
  | 0, _, _, _, _, _, _, _, _, _, _, _, _, _, _, _, _, _, _, _, _, _, _, _, _, _, _, _, _, _, _, _, _, _, _, _, _, _, _, _, _, _, _, _, _, _, _, _, _, _, _, _, _, _, _, _, _, _, _, _, _, _, _, _, _, _, _, _, _, _, _, _, _, _, _, _, _, _, _, _, _ => none
  | k + 1, x5, x7, x8, x108000, x108001, x108002, x108003, x108004, x108005, x108006, x108007, x108008, x108009, x108010, x108011, x108012, x108013, x108014, x108015, x108016, x108017, x108018, x108019, x108020, x108021, x108022, x108023, x108024, x108025, x108026, x108027, x108028, x108029, x108030, x108031, x108032, x108033, x108034, x108035, x108036, x108037, x108038, x108039, x108040, x108041, x108042, x108043, x108044, x108045, x108046, x108047, x108048, x108049, x108050, x108051, x108052, x108053, x108054, x108055, x108056, x108057, x108058, x108059, x108060, x108061, x108062, x108063, x108064, x108065, x108066, x108067, x108068, x108069, x108070, x108071, x108072, x108073, x108074, x108075, x108076 => if x108033 = 3 then (trap_To.j1 k x5 x8 true x108000 x108001 x108002 x108003 x108004 x108005 x108006 x108007 x108008 x108009 x108010 x108011 x108012 x108013 x108014 x108015 x108016 x108017 x108018 x108019 x108020 x108021 x108022 x108023 x108024 x108025 x108026 x108027 x108028 x108029 x108030 x108031 x108032 x108033 x108034 x108035 x108036 x108037 x108038 x108039 x108040 x108041 x108042 x108043 x108044 x108045 x108046 x108047 x108048 x108049 x108050 x108051 x108052 x108053 x108054 x108055 x108056 x108057 x108058 x108059 x108060 x108061 x108062 x108063 x108064 x108065 x108066 x108067 x108068 x108069 x108070 x108071 x108072 x108073 x108074 x108075 x108076) else (if x5 > 63 then (trap_To.j1 k x5 x8 true x108000 x108001 x108002 x108003 x108004 x108005 x108006 x108007 x108008 x108009 x108010 x108011 x108012 x108013 x108014 x108015 x108016 x108017 x108018 x108019 x108020 x108021 x108022 x108023 x108024 x108025 x108026 x108027 x108028 x108029 x108030 x108031 x108032 x108033 x108034 x108035 x108036 x108037 x108038 x108039 x108040 x108041 x108042 x108043 x108044 x108045 x108046 x108047 x108048 x108049 x108050 x108051 x108052 x108053 x108054 x108055 x108056 x108057 x108058 x108059 x108060 x108061 x108062 x108063 x108064 x108065 x108066 x108067 x108068 x108069 x108070 x108071 x108072 x108073 x108074 x108075 x108076) else ((trap_on.f x7 (wrap64 (x5))).bind fun t110 => (trap_To.j1 k x5 x8 (!t110) x108000 x108001 x108002 x108003 x108004 x108005 x108006 x108007 x108008 x108009 x108010 x108011 x108012 x108013 x108014 x108015 x108016 x108017 x108018 x108019 x108020 x108021 x108022 x108023 x108024 x108025 x108026 x108027 x108028 x108029 x108030 x108031 x108032 x108033 x108034 x108035 x108036 x108037 x108038 x108039 x108040 x108041 x108042 x108043 x108044 x108045 x108046 x108047 x108048 x108049 x108050 x108051 x108052 x108053 x108054 x108055 x108056 x108057 x108058 x108059 x108060 x108061 x108062 x108063 x108064 x108065 x108066 x108067 x108068 x108069 x108070 x108071 x108072 x108073 x108074 x108075 x108076)))
def trap_To.j1 : Nat → Int → Int → Bool → Int → Int → Int → Int → Int → Int → Int → Int → Int → Int → Int → Int → Int → Int → Int → Int → Int → Int → Int → Int → Int → Int → Int → Int → Int → Int → Int → Int → Int → Int → Int → Int → Int → Int → Bool → Bool → Bool → Int → Int → Int → Int → Int → Int → Int → Int → Int → Int → Int → Int → Int → Int → Int → Int → Int → Int → Int → Int → Int → Int → Int → Int → Int → Int → Int → Int → Int → Int → Int → Int → Int → Int → Int → Int → Int → Int → Int → Int → Option (Int)
  | 0, _, _, _, _, _, _, _, _, _, _, _, _, _, _, _, _, _, _, _, _, _, _, _, _, _, _, _, _, _, _, _, _, _, _, _, _, _, _, _, _, _, _, _, _, _, _, _, _, _, _, _, _, _, _, _, _, _, _, _, _, _, _, _, _, _, _, _, _, _, _, _, _, _, _, _, _, _, _, _, _ => none
  | k + 1, x5, x8, x23, x108000, x108001, x108002, x108003, x108004, x108005, x108006, x108007, x108008, x108009, x108010, x108011, x108012, x108013, x108014, x108015, x108016, x108017, x108018, x108019, x108020, x108021, x108022, x108023, x108024, x108025, x108026, x108027, x108028, x108029, x108030, x108031, x108032, x108033, x108034, x108035, x108036, x108037, x108038, x108039, x108040, x108041, x108042, x108043, x108044, x108045, x108046, x108047, x108048, x108049, x108050, x108051, x108052, x108053, x108054, x108055, x108056, x108057, x108058, x108059, x108060, x108061, x108062, x108063, x108064, x108065, x108066, x108067, x108068, x108069, x108070, x108071, x108072, x108073, x108074, x108075, x108076 => if x23 = true then (some 0) else (if x108034 = true then ((trap_on.f x8 (wrap64 (x5))).bind fun t111 => (if t111 = true then (some 2) else (some 1))) else (some 1))
end
def trap_To.f (k : Nat) (a0_0 : Int) (a0_1 : Int) (a0_2 : Int) (a0_3 : Int) (a0_4 : Int) (a0_5 : Int) (a0_6 : Int) (a0_7 : Int) (a0_8 : Int) (a0_9 : Int) (a0_10 : Int) (a0_11 : Int) (a0_12 : Int) (a0_13 : Int) (a0_14 : Int) (a0_15 : Int) (a0_16 : Int) (a0_17 : Int) (a0_18 : Int) (a0_19 : Int) (a0_20 : Int) (a0_21 : Int) (a0_22 : Int) (a0_23 : Int) (a0_24 : Int) (a0_25 : Int) (a0_26 : Int) (a0_27 : Int) (a0_28 : Int) (a0_29 : Int) (a0_30 : Int) (a0_31 : Int) (a0_32 : Int) (a0_33 : Int) (a0_34 : Bool) (a0_35 : Bool) (a0_36 : Bool) (a0_37 : Int) (a0_38 : Int) (a0_39 : Int) (a0_40 : Int) (a0_41 : Int) (a0_42 : Int) (a0_43 : Int) (a0_44 : Int) (a0_45 : Int) (a0_46 : Int) (a0_47 : Int) (a0_48 : Int) (a0_49 : Int) (a0_50 : Int) (a0_51 : Int) (a0_52 : Int) (a0_53 : Int) (a0_54 : Int) (a0_55 : Int) (a0_56 : Int) (a0_57 : Int) (a0_58 : Int) (a0_59 : Int) (a0_60 : Int) (a0_61 : Int) (a0_62 : Int) (a0_63 : Int) (a0_64 : Int) (a0_65 : Int) (a0_66 : Int) (a0_67 : Int) (a0_68 : Int) (a0_69 : Int) (a0_70 : Int) (a0_71 : Int) (a0_72 : Int) (a0_73 : Int) (a0_74 : Int) (a0_75 : Int) (a0_76 : Int) (a1 : Int) : Option (Int) := (trap_split.f a1).bind fun bt108 => (if bt108.2 = true then (trap_To.j0 k bt108.1 a0_40 a0_60 a0_0 a0_1 a0_2 a0_3 a0_4 a0_5 a0_6 a0_7 a0_8 a0_9 a0_10 a0_11 a0_12 a0_13 a0_14 a0_15 a0_16 a0_17 a0_18 a0_19 a0_20 a0_21 a0_22 a0_23 a0_24 a0_25 a0_26 a0_27 a0_28 a0_29 a0_30 a0_31 a0_32 a0_33 a0_34 a0_35 a0_36 a0_37 a0_38 a0_39 a0_40 a0_41 a0_42 a0_43 a0_44 a0_45 a0_46 a0_47 a0_48 a0_49 a0_50 a0_51 a0_52 a0_53 a0_54 a0_55 a0_56 a0_57 a0_58 a0_59 a0_60 a0_61 a0_62 a0_63 a0_64 a0_65 a0_66 a0_67 a0_68 a0_69 a0_70 a0_71 a0_72 a0_73 a0_74 a0_75 a0_76) else (trap_To.j0 k bt108.1 a0_39 a0_59 a0_0 a0_1 a0_2 a0_3 a0_4 a0_5 a0_6 a0_7 a0_8 a0_9 a0_10 a0_11 a0_12 a0_13 a0_14 a0_15 a0_16 a0_17 a0_18 a0_19 a0_20 a0_21 a0_22 a0_23 a0_24 a0_25 a0_26 a0_27 a0_28 a0_29 a0_30 a0_31 a0_32 a0_33 a0_34 a0_35 a0_36 a0_37 a0_38 a0_39 a0_40 a0_41 a0_42 a0_43 a0_44 a0_45 a0_46 a0_47 a0_48 a0_49 a0_50 a0_51 a0_52 a0_53 a0_54 a0_55 a0_56 a0_57 a0_58 a0_59 a0_60 a0_61 a0_62 a0_63 a0_64 a0_65 a0_66 a0_67 a0_68 a0_69 a0_70 a0_71 a0_72 a0_73 a0_74 a0_75 a0_76))
theorem trap_To.mono_l : ∀ k, (∀ y0 y1 y2 y3 y4 y5 y6 y7 y8 y9 y10 y11 y12 y13 y14 y15 y16 y17 y18 y19 y20 y21 y22 y23 y24 y25 y26 y27 y28 y29 y30 y31 y32 y33 y34 y35 y36 y37 y38 y39 y40 y41 y42 y43 y44 y45 y46 y47 y48 y49 y50 y51 y52 y53 y54 y55 y56 y57 y58 y59 y60 y61 y62 y63 y64 y65 y66 y67 y68 y69 y70 y71 y72 y73 y74 y75 y76 y77 y78 y79, LeO (trap_To.j0 k y0 y1 y2 y3 y4 y5 y6 y7 y8 y9 y10 y11 y12 y13 y14 y15 y16 y17 y18 y19 y20 y21 y22 y23 y24 y25 y26 y27 y28 y29 y30 y31 y32 y33 y34 y35 y36 y37 y38 y39 y40 y41 y42 y43 y44 y45 y46 y47 y48 y49 y50 y51 y52 y53 y54 y55 y56 y57 y58 y59 y60 y61 y62 y63 y64 y65 y66 y67 y68 y69 y70 y71 y72 y73 y74 y75 y76 y77 y78 y79) (trap_To.j0 (k + 1) y0 y1 y2 y3 y4 y5 y6 y7 y8 y9 y10 y11 y12 y13 y14 y15 y16 y17 y18 y19 y20 y21 y22 y23 y24 y25 y26 y27 y28 y29 y30 y31 y32 y33 y34 y35 y36 y37 y38 y39 y40 y41 y42 y43 y44 y45 y46 y47 y48 y49 y50 y51 y52 y53 y54 y55 y56 y57 y58 y59 y60 y61 y62 y63 y64 y65 y66 y67 y68 y69 y70 y71 y72 y73 y74 y75 y76 y77 y78 y79)) ∧ (∀ y0 y1 y2 y3 y4 y5 y6 y7 y8 y9 y10 y11 y12 y13 y14 y15 y16 y17 y18 y19 y20 y21 y22 y23 y24 y25 y26 y27 y28 y29 y30 y31 y32 y33 y34 y35 y36 y37 y38 y39 y40 y41 y42 y43 y44 y45 y46 y47 y48 y49 y50 y51 y52 y53 y54 y55 y56 y57 y58 y59 y60 y61 y62 y63 y64 y65 y66 y67 y68 y69 y70 y71 y72 y73 y74 y75 y76 y77 y78 y79, LeO (trap_To.j1 k y0 y1 y2 y3 y4 y5 y6 y7 y8 y9 y10 y11 y12 y13 y14 y15 y16 y17 y18 y19 y20 y21 y22 y23 y24 y25 y26 y27 y28 y29 y30 y31 y32 y33 y34 y35 y36 y37 y38 y39 y40 y41 y42 y43 y44 y45 y46 y47 y48 y49 y50 y51 y52 y53 y54 y55 y56 y57 y58 y59 y60 y61 y62 y63 y64 y65 y66 y67 y68 y69 y70 y71 y72 y73 y74 y75 y76 y77 y78 y79) (trap_To.j1 (k + 1) y0 y1 y2 y3 y4 y5 y6 y7 y8 y9 y10 y11 y12 y13 y14 y15 y16 y17 y18 y19 y20 y21 y22 y23 y24 y25 y26 y27 y28 y29 y30 y31 y32 y33 y34 y35 y36 y37 y38 y39 y40 y41 y42 y43 y44 y45 y46 y47 y48 y49 y50 y51 y52 y53 y54 y55 y56 y57 y58 y59 y60 y61 y62 y63 y64 y65 y66 y67 y68 y69 y70 y71 y72 y73 y74 y75 y76 y77 y78 y79))
  | 0 => ⟨fun _ _ _ _ _ _ _ _ _ _ _ _ _ _ _ _ _ _ _ _ _ _ _ _ _ _ _ _ _ _ _ _ _ _ _ _ _ _ _ _ _ _ _ _ _ _ _ _ _ _ _ _ _ _ _ _ _ _ _ _ _ _ _ _ _ _ _ _ _ _ _ _ _ _ _ _ _ _ _ _ r h => by simp [trap_To.j0] at h, fun _ _ _ _ _ _ _ _ _ _ _ _ _ _ _ _ _ _ _ _ _ _ _ _ _ _ _ _ _ _ _ _ _ _ _ _ _ _ _ _ _ _ _ _ _ _ _ _ _ _ _ _ _ _ _ _ _ _ _ _ _ _ _ _ _ _ _ _ _ _ _ _ _ _ _ _ _ _ _ _ r h => by simp [trap_To.j1] at h⟩
  | k + 1 => by
    obtain ⟨ih0, ih1⟩ := trap_To.mono_l k
    refine ⟨?_, ?_⟩
    · intro y0 y1 y2 y3 y4 y5 y6 y7 y8 y9 y10 y11 y12 y13 y14 y15 y16 y17 y18 y19 y20 y21 y22 y23 y24 y25 y26 y27 y28 y29 y30 y31 y32 y33 y34 y35 y36 y37 y38 y39 y40 y41 y42 y43 y44 y45 y46 y47 y48 y49 y50 y51 y52 y53 y54 y55 y56 y57 y58 y59 y60 y61 y62 y63 y64 y65 y66 y67 y68 y69 y70 y71 y72 y73 y74 y75 y76 y77 y78 y79
      unfold trap_To.j0
      repeat' first
      | (with_reducible exact ih0 _ _ _ _ _ _ _ _ _ _ _ _ _ _ _ _ _ _ _ _ _ _ _ _ _ _ _ _ _ _ _ _ _ _ _ _ _ _ _ _ _ _ _ _ _ _ _ _ _ _ _ _ _ _ _ _ _ _ _ _ _ _ _ _ _ _ _ _ _ _ _ _ _ _ _ _ _ _ _ _)
      | (with_reducible exact ih1 _ _ _ _ _ _ _ _ _ _ _ _ _ _ _ _ _ _ _ _ _ _ _ _ _ _ _ _ _ _ _ _ _ _ _ _ _ _ _ _ _ _ _ _ _ _ _ _ _ _ _ _ _ _ _ _ _ _ _ _ _ _ _ _ _ _ _ _ _ _ _ _ _ _ _ _ _ _ _ _)
      | (with_reducible exact LeO.refl _)
      | (with_reducible exact LeO.none _)
      | (with_reducible refine LeO.ite ?_ ?_)
      | (with_reducible refine LeO.bind ?_ (fun _ => ?_))
      | exact ih0 _ _ _ _ _ _ _ _ _ _ _ _ _ _ _ _ _ _ _ _ _ _ _ _ _ _ _ _ _ _ _ _ _ _ _ _ _ _ _ _ _ _ _ _ _ _ _ _ _ _ _ _ _ _ _ _ _ _ _ _ _ _ _ _ _ _ _ _ _ _ _ _ _ _ _ _ _ _ _ _
      | exact ih1 _ _ _ _ _ _ _ _ _ _ _ _ _ _ _ _ _ _ _ _ _ _ _ _ _ _ _ _ _ _ _ _ _ _ _ _ _ _ _ _ _ _ _ _ _ _ _ _ _ _ _ _ _ _ _ _ _ _ _ _ _ _ _ _ _ _ _ _ _ _ _ _ _ _ _ _ _ _ _ _
      | exact LeO.none _
      | refine LeO.ite ?_ ?_
      | refine LeO.bind ?_ (fun _ => ?_)
    · intro y0 y1 y2 y3 y4 y5 y6 y7 y8 y9 y10 y11 y12 y13 y14 y15 y16 y17 y18 y19 y20 y21 y22 y23 y24 y25 y26 y27 y28 y29 y30 y31 y32 y33 y34 y35 y36 y37 y38 y39 y40 y41 y42 y43 y44 y45 y46 y47 y48 y49 y50 y51 y52 y53 y54 y55 y56 y57 y58 y59 y60 y61 y62 y63 y64 y65 y66 y67 y68 y69 y70 y71 y72 y73 y74 y75 y76 y77 y78 y79
      unfold trap_To.j1
      repeat' first
      | (with_reducible exact ih0 _ _ _ _ _ _ _ _ _ _ _ _ _ _ _ _ _ _ _ _ _ _ _ _ _ _ _ _ _ _ _ _ _ _ _ _ _ _ _ _ _ _ _ _ _ _ _ _ _ _ _ _ _ _ _ _ _ _ _ _ _ _ _ _ _ _ _ _ _ _ _ _ _ _ _ _ _ _ _ _)
      | (with_reducible exact ih1 _ _ _ _ _ _ _ _ _ _ _ _ _ _ _ _ _ _ _ _ _ _ _ _ _ _ _ _ _ _ _ _ _ _ _ _ _ _ _ _ _ _ _ _ _ _ _ _ _ _ _ _ _ _ _ _ _ _ _ _ _ _ _ _ _ _ _ _ _ _ _ _ _ _ _ _ _ _ _ _)
      | (with_reducible exact LeO.refl _)
      | (with_reducible exact LeO.none _)
      | (with_reducible refine LeO.ite ?_ ?_)
      | (with_reducible refine LeO.bind ?_ (fun _ => ?_))
      | exact ih0 _ _ _ _ _ _ _ _ _ _ _ _ _ _ _ _ _ _ _ _ _ _ _ _ _ _ _ _ _ _ _ _ _ _ _ _ _ _ _ _ _ _ _ _ _ _ _ _ _ _ _ _ _ _ _ _ _ _ _ _ _ _ _ _ _ _ _ _ _ _ _ _ _ _ _ _ _ _ _ _
      | exact ih1 _ _ _ _ _ _ _ _ _ _ _ _ _ _ _ _ _ _ _ _ _ _ _ _ _ _ _ _ _ _ _ _ _ _ _ _ _ _ _ _ _ _ _ _ _ _ _ _ _ _ _ _ _ _ _ _ _ _ _ _ _ _ _ _ _ _ _ _ _ _ _ _ _ _ _ _ _ _ _ _
      | exact LeO.none _
      | refine LeO.ite ?_ ?_
      | refine LeO.bind ?_ (fun _ => ?_)
theorem trap_To.mono : ∀ a0 a1 a2 a3 a4 a5 a6 a7 a8 a9 a10 a11 a12 a13 a14 a15 a16 a17 a18 a19 a20 a21 a22 a23 a24 a25 a26 a27 a28 a29 a30 a31 a32 a33 a34 a35 a36 a37 a38 a39 a40 a41 a42 a43 a44 a45 a46 a47 a48 a49 a50 a51 a52 a53 a54 a55 a56 a57 a58 a59 a60 a61 a62 a63 a64 a65 a66 a67 a68 a69 a70 a71 a72 a73 a74 a75 a76 a77 k, LeO (trap_To.f k a0 a1 a2 a3 a4 a5 a6 a7 a8 a9 a10 a11 a12 a13 a14 a15 a16 a17 a18 a19 a20 a21 a22 a23 a24 a25 a26 a27 a28 a29 a30 a31 a32 a33 a34 a35 a36 a37 a38 a39 a40 a41 a42 a43 a44 a45 a46 a47 a48 a49 a50 a51 a52 a53 a54 a55 a56 a57 a58 a59 a60 a61 a62 a63 a64 a65 a66 a67 a68 a69 a70 a71 a72 a73 a74 a75 a76 a77) (trap_To.f (k + 1) a0 a1 a2 a3 a4 a5 a6 a7 a8 a9 a10 a11 a12 a13 a14 a15 a16 a17 a18 a19 a20 a21 a22 a23 a24 a25 a26 a27 a28 a29 a30 a31 a32 a33 a34 a35 a36 a37 a38 a39 a40 a41 a42 a43 a44 a45 a46 a47 a48 a49 a50 a51 a52 a53 a54 a55 a56 a57 a58 a59 a60 a61 a62 a63 a64 a65 a66 a67 a68 a69 a70 a71 a72 a73 a74 a75 a76 a77) := by
  intro a0 a1 a2 a3 a4 a5 a6 a7 a8 a9 a10 a11 a12 a13 a14 a15 a16 a17 a18 a19 a20 a21 a22 a23 a24 a25 a26 a27 a28 a29 a30 a31 a32 a33 a34 a35 a36 a37 a38 a39 a40 a41 a42 a43 a44 a45 a46 a47 a48 a49 a50 a51 a52 a53 a54 a55 a56 a57 a58 a59 a60 a61 a62 a63 a64 a65 a66 a67 a68 a69 a70 a71 a72 a73 a74 a75 a76 a77 k
  obtain ⟨ih0, ih1⟩ := trap_To.mono_l k
  unfold trap_To.f
  repeat' first
      | (with_reducible exact ih0 _ _ _ _ _ _ _ _ _ _ _ _ _ _ _ _ _ _ _ _ _ _ _ _ _ _ _ _ _ _ _ _ _ _ _ _ _ _ _ _ _ _ _ _ _ _ _ _ _ _ _ _ _ _ _ _ _ _ _ _ _ _ _ _ _ _ _ _ _ _ _ _ _ _ _ _ _ _ _ _)
      | (with_reducible exact ih1 _ _ _ _ _ _ _ _ _ _ _ _ _ _ _ _ _ _ _ _ _ _ _ _ _ _ _ _ _ _ _ _ _ _ _ _ _ _ _ _ _ _ _ _ _ _ _ _ _ _ _ _ _ _ _ _ _ _ _ _ _ _ _ _ _ _ _ _ _ _ _ _ _ _ _ _ _ _ _ _)
      | (with_reducible exact LeO.refl _)
      | (with_reducible exact LeO.none _)
      | (with_reducible refine LeO.ite ?_ ?_)
      | (with_reducible refine LeO.bind ?_ (fun _ => ?_))
      | exact ih0 _ _ _ _ _ _ _ _ _ _ _ _ _ _ _ _ _ _ _ _ _ _ _ _ _ _ _ _ _ _ _ _ _ _ _ _ _ _ _ _ _ _ _ _ _ _ _ _ _ _ _ _ _ _ _ _ _ _ _ _ _ _ _ _ _ _ _ _ _ _ _ _ _ _ _ _ _ _ _ _
      | exact ih1 _ _ _ _ _ _ _ _ _ _ _ _ _ _ _ _ _ _ _ _ _ _ _ _ _ _ _ _ _ _ _ _ _ _ _ _ _ _ _ _ _ _ _ _ _ _ _ _ _ _ _ _ _ _ _ _ _ _ _ _ _ _ _ _ _ _ _ _ _ _ _ _ _ _ _ _ _ _ _ _
      | exact LeO.none _
      | refine LeO.ite ?_ ?_
      | refine LeO.bind ?_ (fun _ => ?_)
set_option maxHeartbeats 8000000 in
set_option maxRecDepth 100000 in
theorem trap_To.calls (k : Nat) (a0_0 : Int) (a0_1 : Int) (a0_2 : Int) (a0_3 : Int) (a0_4 : Int) (a0_5 : Int) (a0_6 : Int) (a0_7 : Int) (a0_8 : Int) (a0_9 : Int) (a0_10 : Int) (a0_11 : Int) (a0_12 : Int) (a0_13 : Int) (a0_14 : Int) (a0_15 : Int) (a0_16 : Int) (a0_17 : Int) (a0_18 : Int) (a0_19 : Int) (a0_20 : Int) (a0_21 : Int) (a0_22 : Int) (a0_23 : Int) (a0_24 : Int) (a0_25 : Int) (a0_26 : Int) (a0_27 : Int) (a0_28 : Int) (a0_29 : Int) (a0_30 : Int) (a0_31 : Int) (a0_32 : Int) (a0_33 : Int) (a0_34 : Bool) (a0_35 : Bool) (a0_36 : Bool) (a0_37 : Int) (a0_38 : Int) (a0_39 : Int) (a0_40 : Int) (a0_41 : Int) (a0_42 : Int) (a0_43 : Int) (a0_44 : Int) (a0_45 : Int) (a0_46 : Int) (a0_47 : Int) (a0_48 : Int) (a0_49 : Int) (a0_50 : Int) (a0_51 : Int) (a0_52 : Int) (a0_53 : Int) (a0_54 : Int) (a0_55 : Int) (a0_56 : Int) (a0_57 : Int) (a0_58 : Int) (a0_59 : Int) (a0_60 : Int) (a0_61 : Int) (a0_62 : Int) (a0_63 : Int) (a0_64 : Int) (a0_65 : Int) (a0_66 : Int) (a0_67 : Int) (a0_68 : Int) (a0_69 : Int) (a0_70 : Int) (a0_71 : Int) (a0_72 : Int) (a0_73 : Int) (a0_74 : Int) (a0_75 : Int) (a0_76 : Int) (a1 : Int) (r : Int) (w : World) (h : trap_To.f k a0_0 a0_1 a0_2 a0_3 a0_4 a0_5 a0_6 a0_7 a0_8 a0_9 a0_10 a0_11 a0_12 a0_13 a0_14 a0_15 a0_16 a0_17 a0_18 a0_19 a0_20 a0_21 a0_22 a0_23 a0_24 a0_25 a0_26 a0_27 a0_28 a0_29 a0_30 a0_31 a0_32 a0_33 a0_34 a0_35 a0_36 a0_37 a0_38 a0_39 a0_40 a0_41 a0_42 a0_43 a0_44 a0_45 a0_46 a0_47 a0_48 a0_49 a0_50 a0_51 a0_52 a0_53 a0_54 a0_55 a0_56 a0_57 a0_58 a0_59 a0_60 a0_61 a0_62 a0_63 a0_64 a0_65 a0_66 a0_67 a0_68 a0_69 a0_70 a0_71 a0_72 a0_73 a0_74 a0_75 a0_76 a1 = some r) :
    Calls Tryd.prog 7 #[.agg #[.int .u64 a0_0, .int .u64 a0_1, .int .u64 a0_2, .int .u64 a0_3, .int .u64 a0_4, .int .u64 a0_5, .int .u64 a0_6, .int .u64 a0_7, .int .u64 a0_8, .int .u64 a0_9, .int .u64 a0_10, .int .u64 a0_11, .int .u64 a0_12, .int .u64 a0_13, .int .u64 a0_14, .int .u64 a0_15, .int .u64 a0_16, .int .u64 a0_17, .int .u64 a0_18, .int .u64 a0_19, .int .u64 a0_20, .int .u64 a0_21, .int .u64 a0_22, .int .u64 a0_23, .int .u64 a0_24, .int .u64 a0_25, .int .u64 a0_26, .int .u64 a0_27, .int .u64 a0_28, .int .u64 a0_29, .int .u64 a0_30, .int .u64 a0_31, .int .u64 a0_32, .int .u8 a0_33, .bool a0_34, .bool a0_35, .bool a0_36, .int .u64 a0_37, .int .u64 a0_38, .int .u64 a0_39, .int .u64 a0_40, .int .u64 a0_41, .int .u64 a0_42, .int .u64 a0_43, .int .u64 a0_44, .int .u64 a0_45, .int .u64 a0_46, .int .u64 a0_47, .int .u64 a0_48, .int .u64 a0_49, .int .u64 a0_50, .int .u64 a0_51, .int .u64 a0_52, .int .u64 a0_53, .int .u64 a0_54, .int .u64 a0_55, .int .u64 a0_56, .int .u64 a0_57, .int .u64 a0_58, .int .u64 a0_59, .int .u64 a0_60, .int .u64 a0_61, .int .u64 a0_62, .int .u64 a0_63, .int .u64 a0_64, .int .u64 a0_65, .int .u64 a0_66, .int .u64 a0_67, .int .u64 a0_68, .int .u64 a0_69, .int .u64 a0_70, .int .u64 a0_71, .int .u64 a0_72, .int .u64 a0_73, .int .u64 a0_74, .int .u64 a0_75, .int .u64 a0_76], .int .u64 a1] w fun e w' => e = .returned (.int .i64 r) ∧ Below w.heap.size w w' := by
  have hu25 := Tryd.underlying25
  have HB := Aside0.mk (Below.refl w.heap.size w)
  have H : ((trap_split.f a1).bind fun bt108 => (if bt108.2 = true then (trap_To.j0 k bt108.1 a0_40 a0_60 a0_0 a0_1 a0_2 a0_3 a0_4 a0_5 a0_6 a0_7 a0_8 a0_9 a0_10 a0_11 a0_12 a0_13 a0_14 a0_15 a0_16 a0_17 a0_18 a0_19 a0_20 a0_21 a0_22 a0_23 a0_24 a0_25 a0_26 a0_27 a0_28 a0_29 a0_30 a0_31 a0_32 a0_33 a0_34 a0_35 a0_36 a0_37 a0_38 a0_39 a0_40 a0_41 a0_42 a0_43 a0_44 a0_45 a0_46 a0_47 a0_48 a0_49 a0_50 a0_51 a0_52 a0_53 a0_54 a0_55 a0_56 a0_57 a0_58 a0_59 a0_60 a0_61 a0_62 a0_63 a0_64 a0_65 a0_66 a0_67 a0_68 a0_69 a0_70 a0_71 a0_72 a0_73 a0_74 a0_75 a0_76) else (trap_To.j0 k bt108.1 a0_39 a0_59 a0_0 a0_1 a0_2 a0_3 a0_4 a0_5 a0_6 a0_7 a0_8 a0_9 a0_10 a0_11 a0_12 a0_13 a0_14 a0_15 a0_16 a0_17 a0_18 a0_19 a0_20 a0_21 a0_22 a0_23 a0_24 a0_25 a0_26 a0_27 a0_28 a0_29 a0_30 a0_31 a0_32 a0_33 a0_34 a0_35 a0_36 a0_37 a0_38 a0_39 a0_40 a0_41 a0_42 a0_43 a0_44 a0_45 a0_46 a0_47 a0_48 a0_49 a0_50 a0_51 a0_52 a0_53 a0_54 a0_55 a0_56 a0_57 a0_58 a0_59 a0_60 a0_61 a0_62 a0_63 a0_64 a0_65 a0_66 a0_67 a0_68 a0_69 a0_70 a0_71 a0_72 a0_73 a0_74 a0_75 a0_76))) = some r := h
  clear h
  replace H := Option.bind_eq_some_iff.mp H
  obtain ⟨⟨t108, t109⟩, A30, H⟩ := H
  replace H : (if t109 = true then (trap_To.j0 k t108 a0_40 a0_60 a0_0 a0_1 a0_2 a0_3 a0_4 a0_5 a0_6 a0_7 a0_8 a0_9 a0_10 a0_11 a0_12 a0_13 a0_14 a0_15 a0_16 a0_17 a0_18 a0_19 a0_20 a0_21 a0_22 a0_23 a0_24 a0_25 a0_26 a0_27 a0_28 a0_29 a0_30 a0_31 a0_32 a0_33 a0_34 a0_35 a0_36 a0_37 a0_38 a0_39 a0_40 a0_41 a0_42 a0_43 a0_44 a0_45 a0_46 a0_47 a0_48 a0_49 a0_50 a0_51 a0_52 a0_53 a0_54 a0_55 a0_56 a0_57 a0_58 a0_59 a0_60 a0_61 a0_62 a0_63 a0_64 a0_65 a0_66 a0_67 a0_68 a0_69 a0_70 a0_71 a0_72 a0_73 a0_74 a0_75 a0_76) else (trap_To.j0 k t108 a0_39 a0_59 a0_0 a0_1 a0_2 a0_3 a0_4 a0_5 a0_6 a0_7 a0_8 a0_9 a0_10 a0_11 a0_12 a0_13 a0_14 a0_15 a0_16 a0_17 a0_18 a0_19 a0_20 a0_21 a0_22 a0_23 a0_24 a0_25 a0_26 a0_27 a0_28 a0_29 a0_30 a0_31 a0_32 a0_33 a0_34 a0_35 a0_36 a0_37 a0_38 a0_39 a0_40 a0_41 a0_42 a0_43 a0_44 a0_45 a0_46 a0_47 a0_48 a0_49 a0_50 a0_51 a0_52 a0_53 a0_54 a0_55 a0_56 a0_57 a0_58 a0_59 a0_60 a0_61 a0_62 a0_63 a0_64 a0_65 a0_66 a0_67 a0_68 a0_69 a0_70 a0_71 a0_72 a0_73 a0_74 a0_75 a0_76)) = some r := H
  have A3 := Aside0.mk A30
  clear A30
  have HC4 := Aside0.mk H
  clear H
  go_enter Tryd.func7, Tryd.ntmps7
  go_upto_if 18 with (first | ((with_reducible refine gate_dst (N := 2) rfl ?_); refine box_event ?hg (N := 2) ?hd (cs := #[.int .u64 a0_0, .int .u64 a0_1, .int .u64 a0_2, .int .u64 a0_3, .int .u64 a0_4, .int .u64 a0_5, .int .u64 a0_6, .int .u64 a0_7, .int .u64 a0_8, .int .u64 a0_9, .int .u64 a0_10, .int .u64 a0_11, .int .u64 a0_12, .int .u64 a0_13, .int .u64 a0_14, .int .u64 a0_15, .int .u64 a0_16, .int .u64 a0_17, .int .u64 a0_18, .int .u64 a0_19, .int .u64 a0_20, .int .u64 a0_21, .int .u64 a0_22, .int .u64 a0_23, .int .u64 a0_24, .int .u64 a0_25, .int .u64 a0_26, .int .u64 a0_27, .int .u64 a0_28, .int .u64 a0_29, .int .u64 a0_30, .int .u64 a0_31, .int .u64 a0_32, .int .u8 a0_33, .bool a0_34, .bool a0_35, .bool a0_36, .int .u64 a0_37, .int .u64 a0_38, .int .u64 a0_39, .int .u64 a0_40, .int .u64 a0_41, .int .u64 a0_42, .int .u64 a0_43, .int .u64 a0_44, .int .u64 a0_45, .int .u64 a0_46, .int .u64 a0_47, .int .u64 a0_48, .int .u64 a0_49, .int .u64 a0_50, .int .u64 a0_51, .int .u64 a0_52, .int .u64 a0_53, .int .u64 a0_54, .int .u64 a0_55, .int .u64 a0_56, .int .u64 a0_57, .int .u64 a0_58, .int .u64 a0_59, .int .u64 a0_60, .int .u64 a0_61, .int .u64 a0_62, .int .u64 a0_63, .int .u64 a0_64, .int .u64 a0_65, .int .u64 a0_66, .int .u64 a0_67, .int .u64 a0_68, .int .u64 a0_69, .int .u64 a0_70, .int .u64 a0_71, .int .u64 a0_72, .int .u64 a0_73, .int .u64 a0_74, .int .u64 a0_75, .int .u64 a0_76]) (t := 25) ?hr ?_; (case hd => rfl); (case hg => rfl); (case hr => first | (go_simp; done) | (go_simp; rfl)); intro gb107 hg w5 hbox hb; have n0_ := Aside0.mk (below_step (by repeat (first | (with_reducible first | exact HB.out | apply below_alloc | apply pw_below_drewN | apply below_drew1) | exact HB.out)) hb); have n1_ := Aside0.mk (hbox); have n2_ := Aside0.mk ((by rw [hg]; exact (below_size (by repeat (first | (with_reducible first | exact HB.out | apply below_alloc | apply pw_below_drewN | apply below_drew1) | exact HB.out))) : w.heap.size ≤ gb107)); have n3_ := Aside0.mk ((by rw [hg]; exact (below_size (by repeat (first | (with_reducible first | exact HB.out | apply below_alloc | apply pw_below_drewN | apply below_drew1) | exact HB.out))) : w.heap.size ≤ gb107)); clear HB; have HB := n0_; have BK107 := n1_; have GW107 := n2_; have GE107 := n3_; clear n0_ n1_ n2_ n3_; clear hb hbox hg) | (go_at_call 21; (with_reducible refine (trap_split.calls a1 t108 t109 _ A3.out).mono ?_); rintro e w' ⟨rfl, ⟨nd, rfl⟩⟩; (try first | exact ⟨rfl, _, World.drewN_drewN _ _ _⟩ | exact ⟨rfl, _, Eq.trans (World.drewN_drewN _ _ _) (congrArg (World.drewN _) (Nat.add_assoc _ _ _))⟩); have hcz6_33 : w5.cell? ⟨gb107, 33, none⟩ = some (.int .u8 a0_33) := (blk_cell BK107.out 33).trans rfl; have hcz6_34 : w5.cell? ⟨gb107, 34, none⟩ = some (.bool a0_34) := (blk_cell BK107.out 34).trans rfl; have hcz6_39 : w5.cell? ⟨gb107, 39, none⟩ = some (.int .u64 a0_39) := (blk_cell BK107.out 39).trans rfl; have hcz6_40 : w5.cell? ⟨gb107, 40, none⟩ = some (.int .u64 a0_40) := (blk_cell BK107.out 40).trans rfl; have hcz6_59 : w5.cell? ⟨gb107, 59, none⟩ = some (.int .u64 a0_59) := (blk_cell BK107.out 59).trans rfl; have hcz6_60 : w5.cell? ⟨gb107, 60, none⟩ = some (.int .u64 a0_60) := (blk_cell BK107.out 60).trans rfl; have hfz6_33 := blk_frozen BK107.out 33; have hfz6_34 := blk_frozen BK107.out 34; have hfz6_39 := blk_frozen BK107.out 39; have hfz6_40 := blk_frozen BK107.out 40; have hfz6_59 := blk_frozen BK107.out 59; have hfz6_60 := blk_frozen BK107.out 60))
  repeat (go_quiet (first | ((with_reducible refine gate_dst (N := 2) rfl ?_); refine box_event ?hg (N := 2) ?hd (cs := #[.int .u64 a0_0, .int .u64 a0_1, .int .u64 a0_2, .int .u64 a0_3, .int .u64 a0_4, .int .u64 a0_5, .int .u64 a0_6, .int .u64 a0_7, .int .u64 a0_8, .int .u64 a0_9, .int .u64 a0_10, .int .u64 a0_11, .int .u64 a0_12, .int .u64 a0_13, .int .u64 a0_14, .int .u64 a0_15, .int .u64 a0_16, .int .u64 a0_17, .int .u64 a0_18, .int .u64 a0_19, .int .u64 a0_20, .int .u64 a0_21, .int .u64 a0_22, .int .u64 a0_23, .int .u64 a0_24, .int .u64 a0_25, .int .u64 a0_26, .int .u64 a0_27, .int .u64 a0_28, .int .u64 a0_29, .int .u64 a0_30, .int .u64 a0_31, .int .u64 a0_32, .int .u8 a0_33, .bool a0_34, .bool a0_35, .bool a0_36, .int .u64 a0_37, .int .u64 a0_38, .int .u64 a0_39, .int .u64 a0_40, .int .u64 a0_41, .int .u64 a0_42, .int .u64 a0_43, .int .u64 a0_44, .int .u64 a0_45, .int .u64 a0_46, .int .u64 a0_47, .int .u64 a0_48, .int .u64 a0_49, .int .u64 a0_50, .int .u64 a0_51, .int .u64 a0_52, .int .u64 a0_53, .int .u64 a0_54, .int .u64 a0_55, .int .u64 a0_56, .int .u64 a0_57, .int .u64 a0_58, .int .u64 a0_59, .int .u64 a0_60, .int .u64 a0_61, .int .u64 a0_62, .int .u64 a0_63, .int .u64 a0_64, .int .u64 a0_65, .int .u64 a0_66, .int .u64 a0_67, .int .u64 a0_68, .int .u64 a0_69, .int .u64 a0_70, .int .u64 a0_71, .int .u64 a0_72, .int .u64 a0_73, .int .u64 a0_74, .int .u64 a0_75, .int .u64 a0_76]) (t := 25) ?hr ?_; (case hd => rfl); (case hg => rfl); (case hr => first | (go_simp; done) | (go_simp; rfl)); intro gb107 hg w5 hbox hb; have n0_ := Aside0.mk (below_step (by repeat (first | (with_reducible first | exact HB.out | apply below_alloc | apply pw_below_drewN | apply below_drew1) | exact HB.out)) hb); have n1_ := Aside0.mk (hbox); have n2_ := Aside0.mk ((by rw [hg]; exact (below_size (by repeat (first | (with_reducible first | exact HB.out | apply below_alloc | apply pw_below_drewN | apply below_drew1) | exact HB.out))) : w.heap.size ≤ gb107)); have n3_ := Aside0.mk ((by rw [hg]; exact (below_size (by repeat (first | (with_reducible first | exact HB.out | apply below_alloc | apply pw_below_drewN | apply below_drew1) | exact HB.out))) : w.heap.size ≤ gb107)); clear HB; have HB := n0_; have BK107 := n1_; have GW107 := n2_; have GE107 := n3_; clear n0_ n1_ n2_ n3_; clear hb hbox hg) | (go_at_call 21; (with_reducible refine (trap_split.calls a1 t108 t109 _ A3.out).mono ?_); rintro e w' ⟨rfl, ⟨nd, rfl⟩⟩; (try first | exact ⟨rfl, _, World.drewN_drewN _ _ _⟩ | exact ⟨rfl, _, Eq.trans (World.drewN_drewN _ _ _) (congrArg (World.drewN _) (Nat.add_assoc _ _ _))⟩); have hcz6_33 : w5.cell? ⟨gb107, 33, none⟩ = some (.int .u8 a0_33) := (blk_cell BK107.out 33).trans rfl; have hcz6_34 : w5.cell? ⟨gb107, 34, none⟩ = some (.bool a0_34) := (blk_cell BK107.out 34).trans rfl; have hcz6_39 : w5.cell? ⟨gb107, 39, none⟩ = some (.int .u64 a0_39) := (blk_cell BK107.out 39).trans rfl; have hcz6_40 : w5.cell? ⟨gb107, 40, none⟩ = some (.int .u64 a0_40) := (blk_cell BK107.out 40).trans rfl; have hcz6_59 : w5.cell? ⟨gb107, 59, none⟩ = some (.int .u64 a0_59) := (blk_cell BK107.out 59).trans rfl; have hcz6_60 : w5.cell? ⟨gb107, 60, none⟩ = some (.int .u64 a0_60) := (blk_cell BK107.out 60).trans rfl; have hfz6_33 := blk_frozen BK107.out 33; have hfz6_34 := blk_frozen BK107.out 34; have hfz6_39 := blk_frozen BK107.out 39; have hfz6_40 := blk_frozen BK107.out 40; have hfz6_59 := blk_frozen BK107.out 59; have hfz6_60 := blk_frozen BK107.out 60)); go_upto_if 18 with (first | ((with_reducible refine gate_dst (N := 2) rfl ?_); refine box_event ?hg (N := 2) ?hd (cs := #[.int .u64 a0_0, .int .u64 a0_1, .int .u64 a0_2, .int .u64 a0_3, .int .u64 a0_4, .int .u64 a0_5, .int .u64 a0_6, .int .u64 a0_7, .int .u64 a0_8, .int .u64 a0_9, .int .u64 a0_10, .int .u64 a0_11, .int .u64 a0_12, .int .u64 a0_13, .int .u64 a0_14, .int .u64 a0_15, .int .u64 a0_16, .int .u64 a0_17, .int .u64 a0_18, .int .u64 a0_19, .int .u64 a0_20, .int .u64 a0_21, .int .u64 a0_22, .int .u64 a0_23, .int .u64 a0_24, .int .u64 a0_25, .int .u64 a0_26, .int .u64 a0_27, .int .u64 a0_28, .int .u64 a0_29, .int .u64 a0_30, .int .u64 a0_31, .int .u64 a0_32, .int .u8 a0_33, .bool a0_34, .bool a0_35, .bool a0_36, .int .u64 a0_37, .int .u64 a0_38, .int .u64 a0_39, .int .u64 a0_40, .int .u64 a0_41, .int .u64 a0_42, .int .u64 a0_43, .int .u64 a0_44, .int .u64 a0_45, .int .u64 a0_46, .int .u64 a0_47, .int .u64 a0_48, .int .u64 a0_49, .int .u64 a0_50, .int .u64 a0_51, .int .u64 a0_52, .int .u64 a0_53, .int .u64 a0_54, .int .u64 a0_55, .int .u64 a0_56, .int .u64 a0_57, .int .u64 a0_58, .int .u64 a0_59, .int .u64 a0_60, .int .u64 a0_61, .int .u64 a0_62, .int .u64 a0_63, .int .u64 a0_64, .int .u64 a0_65, .int .u64 a0_66, .int .u64 a0_67, .int .u64 a0_68, .int .u64 a0_69, .int .u64 a0_70, .int .u64 a0_71, .int .u64 a0_72, .int .u64 a0_73, .int .u64 a0_74, .int .u64 a0_75, .int .u64 a0_76]) (t := 25) ?hr ?_; (case hd => rfl); (case hg => rfl); (case hr => first | (go_simp; done) | (go_simp; rfl)); intro gb107 hg w5 hbox hb; have n0_ := Aside0.mk (below_step (by repeat (first | (with_reducible first | exact HB.out | apply below_alloc | apply pw_below_drewN | apply below_drew1) | exact HB.out)) hb); have n1_ := Aside0.mk (hbox); have n2_ := Aside0.mk ((by rw [hg]; exact (below_size (by repeat (first | (with_reducible first | exact HB.out | apply below_alloc | apply pw_below_drewN | apply below_drew1) | exact HB.out))) : w.heap.size ≤ gb107)); have n3_ := Aside0.mk ((by rw [hg]; exact (below_size (by repeat (first | (with_reducible first | exact HB.out | apply below_alloc | apply pw_below_drewN | apply below_drew1) | exact HB.out))) : w.heap.size ≤ gb107)); clear HB; have HB := n0_; have BK107 := n1_; have GW107 := n2_; have GE107 := n3_; clear n0_ n1_ n2_ n3_; clear hb hbox hg) | (go_at_call 21; (with_reducible refine (trap_split.calls a1 t108 t109 _ A3.out).mono ?_); rintro e w' ⟨rfl, ⟨nd, rfl⟩⟩; (try first | exact ⟨rfl, _, World.drewN_drewN _ _ _⟩ | exact ⟨rfl, _, Eq.trans (World.drewN_drewN _ _ _) (congrArg (World.drewN _) (Nat.add_assoc _ _ _))⟩); have hcz6_33 : w5.cell? ⟨gb107, 33, none⟩ = some (.int .u8 a0_33) := (blk_cell BK107.out 33).trans rfl; have hcz6_34 : w5.cell? ⟨gb107, 34, none⟩ = some (.bool a0_34) := (blk_cell BK107.out 34).trans rfl; have hcz6_39 : w5.cell? ⟨gb107, 39, none⟩ = some (.int .u64 a0_39) := (blk_cell BK107.out 39).trans rfl; have hcz6_40 : w5.cell? ⟨gb107, 40, none⟩ = some (.int .u64 a0_40) := (blk_cell BK107.out 40).trans rfl; have hcz6_59 : w5.cell? ⟨gb107, 59, none⟩ = some (.int .u64 a0_59) := (blk_cell BK107.out 59).trans rfl; have hcz6_60 : w5.cell? ⟨gb107, 60, none⟩ = some (.int .u64 a0_60) := (blk_cell BK107.out 60).trans rfl; have hfz6_33 := blk_frozen BK107.out 33; have hfz6_34 := blk_frozen BK107.out 34; have hfz6_39 := blk_frozen BK107.out 39; have hfz6_40 := blk_frozen BK107.out 40; have hfz6_59 := blk_frozen BK107.out 59; have hfz6_60 := blk_frozen BK107.out 60)))
  (try simp only [Act.put, List.setIfInBounds_toArray, List.set_cons_zero, List.set_cons_succ])
  go_cut [7, 8] (fun v7 v8 wc => ∃ (kq : Nat) (x7_3 : Int) (x8_3 : Int), v7 = .int .u64 x7_3 ∧ v8 = .int .u64 x8_3 ∧ Aside0 (trap_To.j0 kq t108 x7_3 x8_3 a0_0 a0_1 a0_2 a0_3 a0_4 a0_5 a0_6 a0_7 a0_8 a0_9 a0_10 a0_11 a0_12 a0_13 a0_14 a0_15 a0_16 a0_17 a0_18 a0_19 a0_20 a0_21 a0_22 a0_23 a0_24 a0_25 a0_26 a0_27 a0_28 a0_29 a0_30 a0_31 a0_32 a0_33 a0_34 a0_35 a0_36 a0_37 a0_38 a0_39 a0_40 a0_41 a0_42 a0_43 a0_44 a0_45 a0_46 a0_47 a0_48 a0_49 a0_50 a0_51 a0_52 a0_53 a0_54 a0_55 a0_56 a0_57 a0_58 a0_59 a0_60 a0_61 a0_62 a0_63 a0_64 a0_65 a0_66 a0_67 a0_68 a0_69 a0_70 a0_71 a0_72 a0_73 a0_74 a0_75 a0_76 = some r) ∧ Aside0 (kq ≤ k) ∧ Aside0 (wc.heap[gb107]? = some (.cells #[.int .u64 a0_0, .int .u64 a0_1, .int .u64 a0_2, .int .u64 a0_3, .int .u64 a0_4, .int .u64 a0_5, .int .u64 a0_6, .int .u64 a0_7, .int .u64 a0_8, .int .u64 a0_9, .int .u64 a0_10, .int .u64 a0_11, .int .u64 a0_12, .int .u64 a0_13, .int .u64 a0_14, .int .u64 a0_15, .int .u64 a0_16, .int .u64 a0_17, .int .u64 a0_18, .int .u64 a0_19, .int .u64 a0_20, .int .u64 a0_21, .int .u64 a0_22, .int .u64 a0_23, .int .u64 a0_24, .int .u64 a0_25, .int .u64 a0_26, .int .u64 a0_27, .int .u64 a0_28, .int .u64 a0_29, .int .u64 a0_30, .int .u64 a0_31, .int .u64 a0_32, .int .u8 a0_33, .bool a0_34, .bool a0_35, .bool a0_36, .int .u64 a0_37, .int .u64 a0_38, .int .u64 a0_39, .int .u64 a0_40, .int .u64 a0_41, .int .u64 a0_42, .int .u64 a0_43, .int .u64 a0_44, .int .u64 a0_45, .int .u64 a0_46, .int .u64 a0_47, .int .u64 a0_48, .int .u64 a0_49, .int .u64 a0_50, .int .u64 a0_51, .int .u64 a0_52, .int .u64 a0_53, .int .u64 a0_54, .int .u64 a0_55, .int .u64 a0_56, .int .u64 a0_57, .int .u64 a0_58, .int .u64 a0_59, .int .u64 a0_60, .int .u64 a0_61, .int .u64 a0_62, .int .u64 a0_63, .int .u64 a0_64, .int .u64 a0_65, .int .u64 a0_66, .int .u64 a0_67, .int .u64 a0_68, .int .u64 a0_69, .int .u64 a0_70, .int .u64 a0_71, .int .u64 a0_72, .int .u64 a0_73, .int .u64 a0_74, .int .u64 a0_75, .int .u64 a0_76] 25 (0, 0))) ∧ Aside0 (Below w.heap.size w wc))
  case first =>
    have H := HC4.out
    clear HC4
    by_cases c7 : t109 = true
    · subst c7
      have H1 : (trap_To.j0 k t108 a0_40 a0_60 a0_0 a0_1 a0_2 a0_3 a0_4 a0_5 a0_6 a0_7 a0_8 a0_9 a0_10 a0_11 a0_12 a0_13 a0_14 a0_15 a0_16 a0_17 a0_18 a0_19 a0_20 a0_21 a0_22 a0_23 a0_24 a0_25 a0_26 a0_27 a0_28 a0_29 a0_30 a0_31 a0_32 a0_33 a0_34 a0_35 a0_36 a0_37 a0_38 a0_39 a0_40 a0_41 a0_42 a0_43 a0_44 a0_45 a0_46 a0_47 a0_48 a0_49 a0_50 a0_51 a0_52 a0_53 a0_54 a0_55 a0_56 a0_57 a0_58 a0_59 a0_60 a0_61 a0_62 a0_63 a0_64 a0_65 a0_66 a0_67 a0_68 a0_69 a0_70 a0_71 a0_72 a0_73 a0_74 a0_75 a0_76) = some r := by rw [if_pos rfl] at H; exact H
      clear H
      have H := H1
      clear H1
      have H' := Aside0.mk H
      clear H
      have hcz8_33 : w5.cell? ⟨gb107, 33, none⟩ = some (.int .u8 a0_33) := (blk_cell BK107.out 33).trans rfl
      have hcz8_34 : w5.cell? ⟨gb107, 34, none⟩ = some (.bool a0_34) := (blk_cell BK107.out 34).trans rfl
      have hcz8_39 : w5.cell? ⟨gb107, 39, none⟩ = some (.int .u64 a0_39) := (blk_cell BK107.out 39).trans rfl
      have hcz8_40 : w5.cell? ⟨gb107, 40, none⟩ = some (.int .u64 a0_40) := (blk_cell BK107.out 40).trans rfl
      have hcz8_59 : w5.cell? ⟨gb107, 59, none⟩ = some (.int .u64 a0_59) := (blk_cell BK107.out 59).trans rfl
      have hcz8_60 : w5.cell? ⟨gb107, 60, none⟩ = some (.int .u64 a0_60) := (blk_cell BK107.out 60).trans rfl
      have hfz8_33 := blk_frozen BK107.out 33
      have hfz8_34 := blk_frozen BK107.out 34
      have hfz8_39 := blk_frozen BK107.out 39
      have hfz8_40 := blk_frozen BK107.out 40
      have hfz8_59 := blk_frozen BK107.out 59
      have hfz8_60 := blk_frozen BK107.out 60
      go_wp2
      repeat (go_quiet (fail); try go_wp2)
      go_meet
      case rel => exact ⟨_, (a0_40), (a0_60), (by first | rfl | (simp; done) | (simp [*]; done)), (by first | rfl | (simp; done) | (simp [*]; done)), H', ⟨by first | omega | exact Nat.le_refl _⟩, ⟨by (with_reducible repeat (first | refine blk_drewN ?_ _ | refine blk_drew ?_ | refine blk_alloc ?_ _)); exact BK107.out⟩, ⟨by repeat (first | (with_reducible first | exact HB.out | apply below_alloc | apply pw_below_drewN | apply below_drew1 | refine below_set ?_ GE107.out) | exact HB.out)⟩⟩
    · replace c7 := Bool.eq_false_iff.mpr c7
      subst c7
      have H1 : (trap_To.j0 k t108 a0_39 a0_59 a0_0 a0_1 a0_2 a0_3 a0_4 a0_5 a0_6 a0_7 a0_8 a0_9 a0_10 a0_11 a0_12 a0_13 a0_14 a0_15 a0_16 a0_17 a0_18 a0_19 a0_20 a0_21 a0_22 a0_23 a0_24 a0_25 a0_26 a0_27 a0_28 a0_29 a0_30 a0_31 a0_32 a0_33 a0_34 a0_35 a0_36 a0_37 a0_38 a0_39 a0_40 a0_41 a0_42 a0_43 a0_44 a0_45 a0_46 a0_47 a0_48 a0_49 a0_50 a0_51 a0_52 a0_53 a0_54 a0_55 a0_56 a0_57 a0_58 a0_59 a0_60 a0_61 a0_62 a0_63 a0_64 a0_65 a0_66 a0_67 a0_68 a0_69 a0_70 a0_71 a0_72 a0_73 a0_74 a0_75 a0_76) = some r := by rw [if_neg (show ¬ (false = true) by decide)] at H; exact H
      clear H
      have H := H1
      clear H1
      have H' := Aside0.mk H
      clear H
      go_wp2
      repeat (go_quiet (fail); try go_wp2)
      go_meet
      case rel => exact ⟨_, (a0_39), (a0_59), (by first | rfl | (simp; done) | (simp [*]; done)), (by first | rfl | (simp; done) | (simp [*]; done)), H', ⟨by first | omega | exact Nat.le_refl _⟩, ⟨by (with_reducible repeat (first | refine blk_drewN ?_ _ | refine blk_drew ?_ | refine blk_alloc ?_ _)); exact BK107.out⟩, ⟨by repeat (first | (with_reducible first | exact HB.out | apply below_alloc | apply pw_below_drewN | apply below_drew1 | refine below_set ?_ GE107.out) | exact HB.out)⟩⟩
  case rest =>
    clear HC4
    try clear p2
    try clear c7
    try clear hcz6_33
    try clear hcz6_34
    try clear hcz6_39
    try clear hcz6_40
    try clear hcz6_59
    try clear hcz6_60
    try clear hcz8_33
    try clear hcz8_34
    try clear hcz8_39
    try clear hcz8_40
    try clear hcz8_59
    try clear hcz8_60
    try clear hfz6_33
    try clear hfz6_34
    try clear hfz6_39
    try clear hfz6_40
    try clear hfz6_59
    try clear hfz6_60
    try clear hfz8_33
    try clear hfz8_34
    try clear hfz8_39
    try clear hfz8_40
    try clear hfz8_59
    try clear hfz8_60
    obtain ⟨kq, x7_3, x8_3, rfl, rfl, HA, HJ3, BK107, HB⟩ := hcut
    cases kq with
    | zero => exact absurd HA.out (by simp [trap_To.j0])
    | succ kj3 =>
      have H := HA.out
      clear HA
      simp only [trap_To.j0] at H
      have HC9 := Aside0.mk H
      clear H
      go_upto_region 5 with (fail)
      repeat (go_quiet (fail); go_upto_region 5 with (fail))
      go_cut [23] (fun v23 wc => ∃ (kq : Nat) (x23_8 : Bool), v23 = .bool x23_8 ∧ Aside0 (trap_To.j1 kq t108 x8_3 x23_8 a0_0 a0_1 a0_2 a0_3 a0_4 a0_5 a0_6 a0_7 a0_8 a0_9 a0_10 a0_11 a0_12 a0_13 a0_14 a0_15 a0_16 a0_17 a0_18 a0_19 a0_20 a0_21 a0_22 a0_23 a0_24 a0_25 a0_26 a0_27 a0_28 a0_29 a0_30 a0_31 a0_32 a0_33 a0_34 a0_35 a0_36 a0_37 a0_38 a0_39 a0_40 a0_41 a0_42 a0_43 a0_44 a0_45 a0_46 a0_47 a0_48 a0_49 a0_50 a0_51 a0_52 a0_53 a0_54 a0_55 a0_56 a0_57 a0_58 a0_59 a0_60 a0_61 a0_62 a0_63 a0_64 a0_65 a0_66 a0_67 a0_68 a0_69 a0_70 a0_71 a0_72 a0_73 a0_74 a0_75 a0_76 = some r) ∧ Aside0 (kq ≤ kj3) ∧ Aside0 (wc.heap[gb107]? = some (.cells #[.int .u64 a0_0, .int .u64 a0_1, .int .u64 a0_2, .int .u64 a0_3, .int .u64 a0_4, .int .u64 a0_5, .int .u64 a0_6, .int .u64 a0_7, .int .u64 a0_8, .int .u64 a0_9, .int .u64 a0_10, .int .u64 a0_11, .int .u64 a0_12, .int .u64 a0_13, .int .u64 a0_14, .int .u64 a0_15, .int .u64 a0_16, .int .u64 a0_17, .int .u64 a0_18, .int .u64 a0_19, .int .u64 a0_20, .int .u64 a0_21, .int .u64 a0_22, .int .u64 a0_23, .int .u64 a0_24, .int .u64 a0_25, .int .u64 a0_26, .int .u64 a0_27, .int .u64 a0_28, .int .u64 a0_29, .int .u64 a0_30, .int .u64 a0_31, .int .u64 a0_32, .int .u8 a0_33, .bool a0_34, .bool a0_35, .bool a0_36, .int .u64 a0_37, .int .u64 a0_38, .int .u64 a0_39, .int .u64 a0_40, .int .u64 a0_41, .int .u64 a0_42, .int .u64 a0_43, .int .u64 a0_44, .int .u64 a0_45, .int .u64 a0_46, .int .u64 a0_47, .int .u64 a0_48, .int .u64 a0_49, .int .u64 a0_50, .int .u64 a0_51, .int .u64 a0_52, .int .u64 a0_53, .int .u64 a0_54, .int .u64 a0_55, .int .u64 a0_56, .int .u64 a0_57, .int .u64 a0_58, .int .u64 a0_59, .int .u64 a0_60, .int .u64 a0_61, .int .u64 a0_62, .int .u64 a0_63, .int .u64 a0_64, .int .u64 a0_65, .int .u64 a0_66, .int .u64 a0_67, .int .u64 a0_68, .int .u64 a0_69, .int .u64 a0_70, .int .u64 a0_71, .int .u64 a0_72, .int .u64 a0_73, .int .u64 a0_74, .int .u64 a0_75, .int .u64 a0_76] 25 (0, 0))) ∧ Aside0 (Below w.heap.size w wc))
      case first =>
        have H := HC9.out
        clear HC9
        by_cases c10 : a0_33 = 3
        · rw [if_pos c10] at H
          have c10b0 : (a0_33 == 3) = true := beq_iff_eq.mpr c10
          have c10b1 : (a0_33 != 3) = false := bne_eq_false_iff_eq.mpr c10
          clear c10
          (first | rw [c10b0] | (simp only [i64_w, i32_w]; rw [c10b0]) | skip)
          have H' := Aside0.mk H
          clear H
          have hcz11_33 : wc.cell? ⟨gb107, 33, none⟩ = some (.int .u8 a0_33) := (blk_cell BK107.out 33).trans rfl
          have hcz11_34 : wc.cell? ⟨gb107, 34, none⟩ = some (.bool a0_34) := (blk_cell BK107.out 34).trans rfl
          have hcz11_39 : wc.cell? ⟨gb107, 39, none⟩ = some (.int .u64 a0_39) := (blk_cell BK107.out 39).trans rfl
          have hcz11_40 : wc.cell? ⟨gb107, 40, none⟩ = some (.int .u64 a0_40) := (blk_cell BK107.out 40).trans rfl
          have hcz11_59 : wc.cell? ⟨gb107, 59, none⟩ = some (.int .u64 a0_59) := (blk_cell BK107.out 59).trans rfl
          have hcz11_60 : wc.cell? ⟨gb107, 60, none⟩ = some (.int .u64 a0_60) := (blk_cell BK107.out 60).trans rfl
          have hfz11_33 := blk_frozen BK107.out 33
          have hfz11_34 := blk_frozen BK107.out 34
          have hfz11_39 := blk_frozen BK107.out 39
          have hfz11_40 := blk_frozen BK107.out 40
          have hfz11_59 := blk_frozen BK107.out 59
          have hfz11_60 := blk_frozen BK107.out 60
          go_wp2
          repeat (go_quiet (fail); try go_wp2)
          go_meet
          case rel => exact ⟨_, (true), (by first | rfl | (simp; done) | (simp [*]; done)), H', ⟨by have := HJ3.out; first | omega | exact Nat.le_refl _⟩, ⟨by (with_reducible repeat (first | refine blk_drewN ?_ _ | refine blk_drew ?_ | refine blk_alloc ?_ _)); exact BK107.out⟩, ⟨by repeat (first | (with_reducible first | exact HB.out | apply below_alloc | apply pw_below_drewN | apply below_drew1 | refine below_set ?_ GE107.out) | exact HB.out)⟩⟩
        · rw [if_neg c10] at H
          have c10b0 : (a0_33 == 3) = false := beq_eq_false_iff_ne.mpr c10
          have c10b1 : (a0_33 != 3) = true := bne_iff_ne.mpr c10
          (first | rw [c10b0] | (simp only [i64_w, i32_w]; rw [c10b0]) | skip)
          by_cases c12 : t108 > 63
          · rw [if_pos c12] at H
            have c12b0 : decide (63 < t108) = true := decide_eq_true c12
            clear c12
            have H' := Aside0.mk H
            clear H
            have hcz13_33 : wc.cell? ⟨gb107, 33, none⟩ = some (.int .u8 a0_33) := (blk_cell BK107.out 33).trans rfl
            have hcz13_34 : wc.cell? ⟨gb107, 34, none⟩ = some (.bool a0_34) := (blk_cell BK107.out 34).trans rfl
            have hcz13_39 : wc.cell? ⟨gb107, 39, none⟩ = some (.int .u64 a0_39) := (blk_cell BK107.out 39).trans rfl
            have hcz13_40 : wc.cell? ⟨gb107, 40, none⟩ = some (.int .u64 a0_40) := (blk_cell BK107.out 40).trans rfl
            have hcz13_59 : wc.cell? ⟨gb107, 59, none⟩ = some (.int .u64 a0_59) := (blk_cell BK107.out 59).trans rfl
            have hcz13_60 : wc.cell? ⟨gb107, 60, none⟩ = some (.int .u64 a0_60) := (blk_cell BK107.out 60).trans rfl
            have hfz13_33 := blk_frozen BK107.out 33
            have hfz13_34 := blk_frozen BK107.out 34
            have hfz13_39 := blk_frozen BK107.out 39
            have hfz13_40 := blk_frozen BK107.out 40
            have hfz13_59 := blk_frozen BK107.out 59
            have hfz13_60 := blk_frozen BK107.out 60
            go_wp2
            repeat (go_quiet (fail); try go_wp2)
            go_meet
            case rel => exact ⟨_, (true), (by first | rfl | (simp; done) | (simp [*]; done)), H', ⟨by have := HJ3.out; first | omega | exact Nat.le_refl _⟩, ⟨by (with_reducible repeat (first | refine blk_drewN ?_ _ | refine blk_drew ?_ | refine blk_alloc ?_ _)); exact BK107.out⟩, ⟨by repeat (first | (with_reducible first | exact HB.out | apply below_alloc | apply pw_below_drewN | apply below_drew1 | refine below_set ?_ GE107.out) | exact HB.out)⟩⟩
          · rw [if_neg c12] at H
            have c12b0 : decide (63 < t108) = false := decide_eq_false c12
            clear c12
            replace H := Option.bind_eq_some_iff.mp H
            obtain ⟨t110, A140, H⟩ := H
            replace H : (trap_To.j1 kj3 t108 x8_3 (!t110) a0_0 a0_1 a0_2 a0_3 a0_4 a0_5 a0_6 a0_7 a0_8 a0_9 a0_10 a0_11 a0_12 a0_13 a0_14 a0_15 a0_16 a0_17 a0_18 a0_19 a0_20 a0_21 a0_22 a0_23 a0_24 a0_25 a0_26 a0_27 a0_28 a0_29 a0_30 a0_31 a0_32 a0_33 a0_34 a0_35 a0_36 a0_37 a0_38 a0_39 a0_40 a0_41 a0_42 a0_43 a0_44 a0_45 a0_46 a0_47 a0_48 a0_49 a0_50 a0_51 a0_52 a0_53 a0_54 a0_55 a0_56 a0_57 a0_58 a0_59 a0_60 a0_61 a0_62 a0_63 a0_64 a0_65 a0_66 a0_67 a0_68 a0_69 a0_70 a0_71 a0_72 a0_73 a0_74 a0_75 a0_76) = some r := H
            have A14 := Aside0.mk A140
            clear A140
            have H' := Aside0.mk H
            clear H
            have hcz15_33 : wc.cell? ⟨gb107, 33, none⟩ = some (.int .u8 a0_33) := (blk_cell BK107.out 33).trans rfl
            have hcz15_34 : wc.cell? ⟨gb107, 34, none⟩ = some (.bool a0_34) := (blk_cell BK107.out 34).trans rfl
            have hcz15_39 : wc.cell? ⟨gb107, 39, none⟩ = some (.int .u64 a0_39) := (blk_cell BK107.out 39).trans rfl
            have hcz15_40 : wc.cell? ⟨gb107, 40, none⟩ = some (.int .u64 a0_40) := (blk_cell BK107.out 40).trans rfl
            have hcz15_59 : wc.cell? ⟨gb107, 59, none⟩ = some (.int .u64 a0_59) := (blk_cell BK107.out 59).trans rfl
            have hcz15_60 : wc.cell? ⟨gb107, 60, none⟩ = some (.int .u64 a0_60) := (blk_cell BK107.out 60).trans rfl
            have hfz15_33 := blk_frozen BK107.out 33
            have hfz15_34 := blk_frozen BK107.out 34
            have hfz15_39 := blk_frozen BK107.out 39
            have hfz15_40 := blk_frozen BK107.out 40
            have hfz15_59 := blk_frozen BK107.out 59
            have hfz15_60 := blk_frozen BK107.out 60
            go_wp2_with (first | (go_at_call 18; (with_reducible refine (trap_on.calls x7_3 (wrap64 (t108)) t110 _ A14.out).mono ?_); rintro e w' ⟨rfl, ⟨nd, rfl⟩⟩; (try first | exact ⟨rfl, _, World.drewN_drewN _ _ _⟩ | exact ⟨rfl, _, Eq.trans (World.drewN_drewN _ _ _) (congrArg (World.drewN _) (Nat.add_assoc _ _ _))⟩)))
            repeat (go_quiet (first | (go_at_call 18; (with_reducible refine (trap_on.calls x7_3 (wrap64 (t108)) t110 _ A14.out).mono ?_); rintro e w' ⟨rfl, ⟨nd, rfl⟩⟩; (try first | exact ⟨rfl, _, World.drewN_drewN _ _ _⟩ | exact ⟨rfl, _, Eq.trans (World.drewN_drewN _ _ _) (congrArg (World.drewN _) (Nat.add_assoc _ _ _))⟩))); try go_wp2_with (first | (go_at_call 18; (with_reducible refine (trap_on.calls x7_3 (wrap64 (t108)) t110 _ A14.out).mono ?_); rintro e w' ⟨rfl, ⟨nd, rfl⟩⟩; (try first | exact ⟨rfl, _, World.drewN_drewN _ _ _⟩ | exact ⟨rfl, _, Eq.trans (World.drewN_drewN _ _ _) (congrArg (World.drewN _) (Nat.add_assoc _ _ _))⟩))))
            go_meet
            case rel => exact ⟨_, (!t110), (by first | rfl | (simp; done) | (simp [*]; done)), H', ⟨by have := HJ3.out; first | omega | exact Nat.le_refl _⟩, ⟨by (with_reducible repeat (first | refine blk_drewN ?_ _ | refine blk_drew ?_ | refine blk_alloc ?_ _)); exact BK107.out⟩, ⟨by repeat (first | (with_reducible first | exact HB.out | apply below_alloc | apply pw_below_drewN | apply below_drew1 | refine below_set ?_ GE107.out) | exact HB.out)⟩⟩
      case rest =>
        clear HC9
        try clear c1
        try clear p2
        try clear p6
        try clear c7
        try clear c10
        try clear c10b0
        try clear c10b1
        try clear c12
        try clear c12b0
        try clear hcz11_33
        try clear hcz11_34
        try clear hcz11_39
        try clear hcz11_40
        try clear hcz11_59
        try clear hcz11_60
        try clear hcz13_33
        try clear hcz13_34
        try clear hcz13_39
        try clear hcz13_40
        try clear hcz13_59
        try clear hcz13_60
        try clear hcz15_33
        try clear hcz15_34
        try clear hcz15_39
        try clear hcz15_40
        try clear hcz15_59
        try clear hcz15_60
        try clear hcz6_33
        try clear hcz6_34
        try clear hcz6_39
        try clear hcz6_40
        try clear hcz6_59
        try clear hcz6_60
        try clear hcz8_33
        try clear hcz8_34
        try clear hcz8_39
        try clear hcz8_40
        try clear hcz8_59
        try clear hcz8_60
        try clear hfz11_33
        try clear hfz11_34
        try clear hfz11_39
        try clear hfz11_40
        try clear hfz11_59
        try clear hfz11_60
        try clear hfz13_33
        try clear hfz13_34
        try clear hfz13_39
        try clear hfz13_40
        try clear hfz13_59
        try clear hfz13_60
        try clear hfz15_33
        try clear hfz15_34
        try clear hfz15_39
        try clear hfz15_40
        try clear hfz15_59
        try clear hfz15_60
        try clear hfz6_33
        try clear hfz6_34
        try clear hfz6_39
        try clear hfz6_40
        try clear hfz6_59
        try clear hfz6_60
        try clear hfz8_33
        try clear hfz8_34
        try clear hfz8_39
        try clear hfz8_40
        try clear hfz8_59
        try clear hfz8_60
        try clear p2
        obtain ⟨kq, x23_8, rfl, HA, HJ8, BK107, HB⟩ := hcut
        cases kq with
        | zero => exact absurd HA.out (by simp [trap_To.j1])
        | succ kj8 =>
          have H := HA.out
          clear HA
          simp only [trap_To.j1] at H
          by_cases c16 : x23_8 = true
          · subst c16
            have H1 : (some 0) = some r := by rw [if_pos rfl] at H; exact H
            clear H
            have H := H1
            clear H1
            obtain rfl := Option.some.inj H
            go_wp2
            repeat (go_quiet (fail); try go_wp2)
            go_ret
            exact ⟨by first | rfl | (simp [errW_none, errW_some] <;> rfl) | (simp [*, errW_none, errW_some] <;> rfl), by repeat (first | (with_reducible first | exact HB.out | apply below_alloc | apply pw_below_drewN | apply below_drew1 | refine below_set ?_ GE107.out) | exact HB.out)⟩
          · replace c16 := Bool.eq_false_iff.mpr c16
            subst c16
            have H1 : (if a0_34 = true then ((trap_on.f x8_3 (wrap64 (t108))).bind fun t111 => (if t111 = true then (some 2) else (some 1))) else (some 1)) = some r := by rw [if_neg (show ¬ (false = true) by decide)] at H; exact H
            clear H
            have H := H1
            clear H1
            by_cases c17 : a0_34 = true
            · subst c17
              have H1 : ((trap_on.f x8_3 (wrap64 (t108))).bind fun t111 => (if t111 = true then (some 2) else (some 1))) = some r := by rw [if_pos rfl] at H; exact H
              clear H
              have H := H1
              clear H1
              replace H := Option.bind_eq_some_iff.mp H
              obtain ⟨t111, A180, H⟩ := H
              replace H : (if t111 = true then (some 2) else (some 1)) = some r := H
              have A18 := Aside0.mk A180
              clear A180
              by_cases c19 : t111 = true
              · subst c19
                have H1 : (some 2) = some r := by rw [if_pos rfl] at H; exact H
                clear H
                have H := H1
                clear H1
                obtain rfl := Option.some.inj H
                have hcz20_33 : wc.cell? ⟨gb107, 33, none⟩ = some (.int .u8 a0_33) := (blk_cell BK107.out 33).trans rfl
                have hcz20_34 : wc.cell? ⟨gb107, 34, none⟩ = some (.bool true) := (blk_cell BK107.out 34).trans rfl
                have hcz20_39 : wc.cell? ⟨gb107, 39, none⟩ = some (.int .u64 a0_39) := (blk_cell BK107.out 39).trans rfl
                have hcz20_40 : wc.cell? ⟨gb107, 40, none⟩ = some (.int .u64 a0_40) := (blk_cell BK107.out 40).trans rfl
                have hcz20_59 : wc.cell? ⟨gb107, 59, none⟩ = some (.int .u64 a0_59) := (blk_cell BK107.out 59).trans rfl
                have hcz20_60 : wc.cell? ⟨gb107, 60, none⟩ = some (.int .u64 a0_60) := (blk_cell BK107.out 60).trans rfl
                have hfz20_33 := blk_frozen BK107.out 33
                have hfz20_34 := blk_frozen BK107.out 34
                have hfz20_39 := blk_frozen BK107.out 39
                have hfz20_40 := blk_frozen BK107.out 40
                have hfz20_59 := blk_frozen BK107.out 59
                have hfz20_60 := blk_frozen BK107.out 60
                go_wp2_with (first | (go_at_call 18; (with_reducible refine (trap_on.calls x8_3 (wrap64 (t108)) true _ A18.out).mono ?_); rintro e w' ⟨rfl, ⟨nd, rfl⟩⟩; (try first | exact ⟨rfl, _, World.drewN_drewN _ _ _⟩ | exact ⟨rfl, _, Eq.trans (World.drewN_drewN _ _ _) (congrArg (World.drewN _) (Nat.add_assoc _ _ _))⟩)))
                repeat (go_quiet (first | (go_at_call 18; (with_reducible refine (trap_on.calls x8_3 (wrap64 (t108)) true _ A18.out).mono ?_); rintro e w' ⟨rfl, ⟨nd, rfl⟩⟩; (try first | exact ⟨rfl, _, World.drewN_drewN _ _ _⟩ | exact ⟨rfl, _, Eq.trans (World.drewN_drewN _ _ _) (congrArg (World.drewN _) (Nat.add_assoc _ _ _))⟩))); try go_wp2_with (first | (go_at_call 18; (with_reducible refine (trap_on.calls x8_3 (wrap64 (t108)) true _ A18.out).mono ?_); rintro e w' ⟨rfl, ⟨nd, rfl⟩⟩; (try first | exact ⟨rfl, _, World.drewN_drewN _ _ _⟩ | exact ⟨rfl, _, Eq.trans (World.drewN_drewN _ _ _) (congrArg (World.drewN _) (Nat.add_assoc _ _ _))⟩))))
                go_ret
                exact ⟨by first | rfl | (simp [errW_none, errW_some] <;> rfl) | (simp [*, errW_none, errW_some] <;> rfl), by repeat (first | (with_reducible first | exact HB.out | apply below_alloc | apply pw_below_drewN | apply below_drew1 | refine below_set ?_ GE107.out) | exact HB.out)⟩
              · replace c19 := Bool.eq_false_iff.mpr c19
                subst c19
                have H1 : (some 1) = some r := by rw [if_neg (show ¬ (false = true) by decide)] at H; exact H
                clear H
                have H := H1
                clear H1
                obtain rfl := Option.some.inj H
                have hcz21_33 : wc.cell? ⟨gb107, 33, none⟩ = some (.int .u8 a0_33) := (blk_cell BK107.out 33).trans rfl
                have hcz21_34 : wc.cell? ⟨gb107, 34, none⟩ = some (.bool true) := (blk_cell BK107.out 34).trans rfl
                have hcz21_39 : wc.cell? ⟨gb107, 39, none⟩ = some (.int .u64 a0_39) := (blk_cell BK107.out 39).trans rfl
                have hcz21_40 : wc.cell? ⟨gb107, 40, none⟩ = some (.int .u64 a0_40) := (blk_cell BK107.out 40).trans rfl
                have hcz21_59 : wc.cell? ⟨gb107, 59, none⟩ = some (.int .u64 a0_59) := (blk_cell BK107.out 59).trans rfl
                have hcz21_60 : wc.cell? ⟨gb107, 60, none⟩ = some (.int .u64 a0_60) := (blk_cell BK107.out 60).trans rfl
                have hfz21_33 := blk_frozen BK107.out 33
                have hfz21_34 := blk_frozen BK107.out 34
                have hfz21_39 := blk_frozen BK107.out 39
                have hfz21_40 := blk_frozen BK107.out 40
                have hfz21_59 := blk_frozen BK107.out 59
                have hfz21_60 := blk_frozen BK107.out 60
                go_wp2_with (first | (go_at_call 18; (with_reducible refine (trap_on.calls x8_3 (wrap64 (t108)) false _ A18.out).mono ?_); rintro e w' ⟨rfl, ⟨nd, rfl⟩⟩; (try first | exact ⟨rfl, _, World.drewN_drewN _ _ _⟩ | exact ⟨rfl, _, Eq.trans (World.drewN_drewN _ _ _) (congrArg (World.drewN _) (Nat.add_assoc _ _ _))⟩)))
                repeat (go_quiet (first | (go_at_call 18; (with_reducible refine (trap_on.calls x8_3 (wrap64 (t108)) false _ A18.out).mono ?_); rintro e w' ⟨rfl, ⟨nd, rfl⟩⟩; (try first | exact ⟨rfl, _, World.drewN_drewN _ _ _⟩ | exact ⟨rfl, _, Eq.trans (World.drewN_drewN _ _ _) (congrArg (World.drewN _) (Nat.add_assoc _ _ _))⟩))); try go_wp2_with (first | (go_at_call 18; (with_reducible refine (trap_on.calls x8_3 (wrap64 (t108)) false _ A18.out).mono ?_); rintro e w' ⟨rfl, ⟨nd, rfl⟩⟩; (try first | exact ⟨rfl, _, World.drewN_drewN _ _ _⟩ | exact ⟨rfl, _, Eq.trans (World.drewN_drewN _ _ _) (congrArg (World.drewN _) (Nat.add_assoc _ _ _))⟩))))
                go_ret
                exact ⟨by first | rfl | (simp [errW_none, errW_some] <;> rfl) | (simp [*, errW_none, errW_some] <;> rfl), by repeat (first | (with_reducible first | exact HB.out | apply below_alloc | apply pw_below_drewN | apply below_drew1 | refine below_set ?_ GE107.out) | exact HB.out)⟩
            · replace c17 := Bool.eq_false_iff.mpr c17
              subst c17
              have H1 : (some 1) = some r := by rw [if_neg (show ¬ (false = true) by decide)] at H; exact H
              clear H
              have H := H1
              clear H1
              obtain rfl := Option.some.inj H
              have hcz22_33 : wc.cell? ⟨gb107, 33, none⟩ = some (.int .u8 a0_33) := (blk_cell BK107.out 33).trans rfl
              have hcz22_34 : wc.cell? ⟨gb107, 34, none⟩ = some (.bool false) := (blk_cell BK107.out 34).trans rfl
              have hcz22_39 : wc.cell? ⟨gb107, 39, none⟩ = some (.int .u64 a0_39) := (blk_cell BK107.out 39).trans rfl
              have hcz22_40 : wc.cell? ⟨gb107, 40, none⟩ = some (.int .u64 a0_40) := (blk_cell BK107.out 40).trans rfl
              have hcz22_59 : wc.cell? ⟨gb107, 59, none⟩ = some (.int .u64 a0_59) := (blk_cell BK107.out 59).trans rfl
              have hcz22_60 : wc.cell? ⟨gb107, 60, none⟩ = some (.int .u64 a0_60) := (blk_cell BK107.out 60).trans rfl
              have hfz22_33 := blk_frozen BK107.out 33
              have hfz22_34 := blk_frozen BK107.out 34
              have hfz22_39 := blk_frozen BK107.out 39
              have hfz22_40 := blk_frozen BK107.out 40
              have hfz22_59 := blk_frozen BK107.out 59
              have hfz22_60 := blk_frozen BK107.out 60
              go_wp2
              repeat (go_quiet (fail); try go_wp2)
              go_ret
              exact ⟨by first | rfl | (simp [errW_none, errW_some] <;> rfl) | (simp [*, errW_none, errW_some] <;> rfl), by repeat (first | (with_reducible first | exact HB.out | apply below_alloc | apply pw_below_drewN | apply below_drew1 | refine below_set ?_ GE107.out) | exact HB.out)⟩

/-! ### trap_set: function 17 -/
def trap_set.f (a0 : Int) (a1 : Int) (a2 : Bool) : Option (Int) := if a2 = true then (if 0 ≤ a1 then (some (Go.bits .or .u64 a0 (shl .u64 1 a1))) else (none)) else (if 0 ≤ a1 then (some (Go.bits .andNot .u64 a0 (shl .u64 1 a1))) else (none))
set_option maxHeartbeats 8000000 in
set_option maxRecDepth 100000 in
theorem trap_set.calls (a0 : Int) (a1 : Int) (a2 : Bool) (r : Int) (w : World) (h : trap_set.f a0 a1 a2 = some r) :
    Calls Tryd.prog 17 #[.int .u64 a0, .int .i64 a1, .bool a2] w fun e w' => e = .returned (.int .u64 r) ∧ Drawn0 w w' := by
  have H : (if a2 = true then (if 0 ≤ a1 then (some (Go.bits .or .u64 a0 (shl .u64 1 a1))) else (none)) else (if 0 ≤ a1 then (some (Go.bits .andNot .u64 a0 (shl .u64 1 a1))) else (none))) = some r := h
  clear h
  by_cases c4 : a2 = true
  · subst c4
    have H1 : (if 0 ≤ a1 then (some (Go.bits .or .u64 a0 (shl .u64 1 a1))) else (none)) = some r := by rw [if_pos rfl] at H; exact H
    clear H
    have H := H1
    clear H1
    by_cases c5 : 0 ≤ a1
    · rw [if_pos c5] at H
      have c5b0 := eq_true c5
      have c5b1 : decide (0 ≤ a1) = true := decide_eq_true c5
      clear c5
      obtain ⟨ji6, hji6⟩ : ∃ j_ : Int, (shl .u64 1 a1) = j_ := ⟨_, rfl⟩
      replace H : (some (Go.bits .or .u64 a0 (ji6))) = some r := by first | (rw [hji6] at H; exact H) | (simp only [hji6] at H ⊢; exact H)
      have hji6_ : (IntKind.u64.wrap (1 * 2 ^ min a1.toNat 64)) = ji6 := hji6
      have hji6z : a1 ≤ 64 → (IntKind.u64.wrap (1 * 2 ^ a1.toNat)) = ji6 := shl_small hji6
      have hji6u : (IntKind.u64.wrap (2 ^ min a1.toNat 64)) = ji6 := by have h_ := hji6_; rw [Int.one_mul] at h_; exact h_
      have hji6v : a1 ≤ 64 → (IntKind.u64.wrap (2 ^ a1.toNat)) = ji6 := fun hle_ => by have h_ := hji6z hle_; rw [Int.one_mul] at h_; exact h_
      obtain rfl := Option.some.inj H
      go_enter Tryd.func17, Tryd.ntmps17
      go_wp2
      go_ret
      exact ⟨by first | rfl | (simp; done) | (simp only [← hji6] <;> (first | rfl | simp)) | (simp [*]; done), by repeat (first | exact Drawn0.refl _ | apply Drawn0.step)⟩
    · rw [if_neg c5] at H
      exact absurd H (by simp)
  · replace c4 := Bool.eq_false_iff.mpr c4
    subst c4
    have H1 : (if 0 ≤ a1 then (some (Go.bits .andNot .u64 a0 (shl .u64 1 a1))) else (none)) = some r := by rw [if_neg (show ¬ (false = true) by decide)] at H; exact H
    clear H
    have H := H1
    clear H1
    by_cases c7 : 0 ≤ a1
    · rw [if_pos c7] at H
      have c7b0 := eq_true c7
      have c7b1 : decide (0 ≤ a1) = true := decide_eq_true c7
      clear c7
      obtain ⟨ji8, hji8⟩ : ∃ j_ : Int, (shl .u64 1 a1) = j_ := ⟨_, rfl⟩
      replace H : (some (Go.bits .andNot .u64 a0 (ji8))) = some r := by first | (rw [hji8] at H; exact H) | (simp only [hji8] at H ⊢; exact H)
      have hji8_ : (IntKind.u64.wrap (1 * 2 ^ min a1.toNat 64)) = ji8 := hji8
      have hji8z : a1 ≤ 64 → (IntKind.u64.wrap (1 * 2 ^ a1.toNat)) = ji8 := shl_small hji8
      have hji8u : (IntKind.u64.wrap (2 ^ min a1.toNat 64)) = ji8 := by have h_ := hji8_; rw [Int.one_mul] at h_; exact h_
      have hji8v : a1 ≤ 64 → (IntKind.u64.wrap (2 ^ a1.toNat)) = ji8 := fun hle_ => by have h_ := hji8z hle_; rw [Int.one_mul] at h_; exact h_
      obtain rfl := Option.some.inj H
      go_enter Tryd.func17, Tryd.ntmps17
      go_wp2
      go_ret
      exact ⟨by first | rfl | (simp; done) | (simp only [← hji8] <;> (first | rfl | simp)) | (simp [*]; done), by repeat (first | exact Drawn0.refl _ | apply Drawn0.step)⟩
    · rw [if_neg c7] at H
      exact absurd H (by simp)

end Go.Proofs.YtfehchhmghpfpaaDoor.Q
