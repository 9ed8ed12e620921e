/- Whatever its two texts and its window are, mainlinelaw24.ServiceConflicts returns true. -/
import Derived.Test.YtcbacbfjjahcbaaGreatDoorKnown
import Derived.Test.YtcbacbfjjahcbaaGreatDoorRcC0
import Derived.Test.YtcbacbfjjahcbaaGreatDoorRcC1
import Derived.Test.YtcbacbfjjahcbaaGreatDoorRcC2
import Derived.Test.YtcbacbfjjahcbaaGreatDoorRcC3
import Derived.Test.YtcbacbfjjahcbaaGreatDoorRcC4
import Derived.Test.YtcbacbfjjahcbaaGreatDoorRcC5
import Derived.Test.YtcbacbfjjahcbaaGreatDoorRcC6
import Derived.Test.YtcbacbfjjahcbaaGreatDoorRcC7
import Derived.Test.YtcbacbfjjahcbaaGreatDoorRcC8
import Derived.Test.YtcbacbfjjahcbaaGreatDoorRcC9
import Derived.Test.YtcbacbfjjahcbaaGreatDoorRcC10
import Derived.Test.YtcbacbfjjahcbaaGreatDoorRcC11
import Derived.Test.YtcbacbfjjahcbaaGreatDoorRcC12
import Derived.Test.YtcbacbfjjahcbaaGreatDoorRcC13
import Derived.Test.YtcbacbfjjahcbaaGreatDoorRcC14
import Derived.Test.YtcbacbfjjahcbaaGreatDoorRcC15
import Derived.Test.YtcbacbfjjahcbaaGreatDoorRcC16
import Derived.Test.YtcbacbfjjahcbaaGreatDoorRcC17
import Derived.Test.YtcbacbfjjahcbaaGreatDoorRnC
namespace Go.Proofs.YtcbacbfjjahcbaaGreatDoor.Ev
open Go Go.Proofs
set_option maxRecDepth 100000
set_option linter.unusedVariables false
set_option linter.unusedSimpArgs false
theorem hf198 : PP0.funcs.get 198 = some Tryz.f198 := by kernel_rfl
theorem hb198 : Tryz.f198.body.isSome = true := by kernel_rfl
theorem hf133 : PP0.funcs.get 133 = some Tryz.f133 := by kernel_rfl
theorem hb133 : Tryz.f133.body.isSome = true := by kernel_rfl
theorem hf18 : PP0.funcs.get 18 = some Tryz.f18 := by kernel_rfl
theorem hb18 : Tryz.f18.body.isSome = true := by kernel_rfl
theorem hf195 : PP0.funcs.get 195 = some Tryz.f195 := by kernel_rfl
theorem hb195 : Tryz.f195.body.isSome = true := by kernel_rfl
theorem hfL : PP0.funcs.get 3 = some Tryz.f3 := by kernel_rfl
theorem hbL : Tryz.f3.body.isSome = true := by kernel_rfl
theorem okp0_0 : pt0_0.allP (CPOK Tryz.prog 198) := @runsPT_ok Tryz.prog PP3 G3 198 Tryz.f198 hf198 hb198 pt0_0 cfr0_0
theorem okp1_0 : pt1_0.allP (CPOK Tryz.prog 198) := @runsPT_ok Tryz.prog PP3 G3 198 Tryz.f198 hf198 hb198 pt1_0 cfr1_0
theorem okp2_0 : pt2_0.allP (CPOK Tryz.prog 198) := @runsPT_ok Tryz.prog PP3 G3 198 Tryz.f198 hf198 hb198 pt2_0 cfr2_0
theorem okp3_0 : pt3_0.allP (CPOK Tryz.prog 198) := @runsPT_ok Tryz.prog PP3 G3 198 Tryz.f198 hf198 hb198 pt3_0 cfr3_0
theorem okp4_0 : pt4_0.allP (CPOK Tryz.prog 198) := @runsPT_ok Tryz.prog PP3 G3 198 Tryz.f198 hf198 hb198 pt4_0 cfr4_0
theorem okp5_0 : pt5_0.allP (CPOK Tryz.prog 198) := @runsPT_ok Tryz.prog PP3 G3 198 Tryz.f198 hf198 hb198 pt5_0 cfr5_0
theorem okp6_0 : pt6_0.allP (CPOK Tryz.prog 198) := @runsPT_ok Tryz.prog PP3 G3 198 Tryz.f198 hf198 hb198 pt6_0 cfr6_0
theorem okp7_0 : pt7_0.allP (CPOK Tryz.prog 198) := @runsPT_ok Tryz.prog PP3 G3 198 Tryz.f198 hf198 hb198 pt7_0 cfr7_0
theorem okp8_0 : pt8_0.allP (CPOK Tryz.prog 198) := @runsPT_ok Tryz.prog PP3 G3 198 Tryz.f198 hf198 hb198 pt8_0 cfr8_0
theorem okp9_0 : pt9_0.allP (CPOK Tryz.prog 198) := @runsPT_ok Tryz.prog PP3 G3 198 Tryz.f198 hf198 hb198 pt9_0 cfr9_0
theorem okp10_0 : pt10_0.allP (CPOK Tryz.prog 198) := @runsPT_ok Tryz.prog PP3 G3 198 Tryz.f198 hf198 hb198 pt10_0 cfr10_0
theorem okp11_0 : pt11_0.allP (CPOK Tryz.prog 198) := @runsPT_ok Tryz.prog PP3 G3 198 Tryz.f198 hf198 hb198 pt11_0 cfr11_0
theorem okp11_1 : pt11_1.allP (CPOK Tryz.prog 198) := @runsPT_ok Tryz.prog PP3 G3 198 Tryz.f198 hf198 hb198 pt11_1 cfr11_1
theorem okp11_2 : pt11_2.allP (CPOK Tryz.prog 198) := @runsPT_ok Tryz.prog PP3 G3 198 Tryz.f198 hf198 hb198 pt11_2 cfr11_2
theorem okp11_3 : pt11_3.allP (CPOK Tryz.prog 198) := @runsPT_ok Tryz.prog PP3 G3 198 Tryz.f198 hf198 hb198 pt11_3 cfr11_3
theorem okp11_4 : pt11_4.allP (CPOK Tryz.prog 198) := @runsPT_ok Tryz.prog PP3 G3 198 Tryz.f198 hf198 hb198 pt11_4 cfr11_4
theorem okp12_0 : pt12_0.allP (CPOK Tryz.prog 198) := @runsPT_ok Tryz.prog PP3 G3 198 Tryz.f198 hf198 hb198 pt12_0 cfr12_0
theorem okp12_1 : pt12_1.allP (CPOK Tryz.prog 198) := @runsPT_ok Tryz.prog PP3 G3 198 Tryz.f198 hf198 hb198 pt12_1 cfr12_1
theorem okp12_2 : pt12_2.allP (CPOK Tryz.prog 198) := @runsPT_ok Tryz.prog PP3 G3 198 Tryz.f198 hf198 hb198 pt12_2 cfr12_2
theorem okp12_3 : pt12_3.allP (CPOK Tryz.prog 198) := @runsPT_ok Tryz.prog PP3 G3 198 Tryz.f198 hf198 hb198 pt12_3 cfr12_3
theorem okp12_4 : pt12_4.allP (CPOK Tryz.prog 198) := @runsPT_ok Tryz.prog PP3 G3 198 Tryz.f198 hf198 hb198 pt12_4 cfr12_4
theorem okp13_0 : pt13_0.allP (CPOK Tryz.prog 198) := @runsPT_ok Tryz.prog PP3 G3 198 Tryz.f198 hf198 hb198 pt13_0 cfr13_0
theorem okp14_0 : pt14_0.allP (CPOK Tryz.prog 198) := @runsPT_ok Tryz.prog PP3 G3 198 Tryz.f198 hf198 hb198 pt14_0 cfr14_0
theorem okp15_0 : pt15_0.allP (CPOK Tryz.prog 198) := @runsPT_ok Tryz.prog PP3 G3 198 Tryz.f198 hf198 hb198 pt15_0 cfr15_0
theorem okp16_0 : pt16_0.allP (CPOK Tryz.prog 198) := @runsPT_ok Tryz.prog PP3 G3 198 Tryz.f198 hf198 hb198 pt16_0 cfr16_0
theorem okp16_1 : pt16_1.allP (CPOK Tryz.prog 198) := @runsPT_ok Tryz.prog PP3 G3 198 Tryz.f198 hf198 hb198 pt16_1 cfr16_1
theorem okp16_2 : pt16_2.allP (CPOK Tryz.prog 198) := @runsPT_ok Tryz.prog PP3 G3 198 Tryz.f198 hf198 hb198 pt16_2 cfr16_2
theorem okp16_3 : pt16_3.allP (CPOK Tryz.prog 198) := @runsPT_ok Tryz.prog PP3 G3 198 Tryz.f198 hf198 hb198 pt16_3 cfr16_3
theorem okp16_4 : pt16_4.allP (CPOK Tryz.prog 198) := @runsPT_ok Tryz.prog PP3 G3 198 Tryz.f198 hf198 hb198 pt16_4 cfr16_4
theorem okp17_0 : pt17_0.allP (CPOK Tryz.prog 198) := @runsPT_ok Tryz.prog PP3 G3 198 Tryz.f198 hf198 hb198 pt17_0 cfr17_0
theorem okp18_0 : pt18_0.allP (CPOK Tryz.prog 198) := @runsPT_ok Tryz.prog PP3 G3 198 Tryz.f198 hf198 hb198 pt18_0 cfr18_0
theorem okp18_1 : pt18_1.allP (CPOK Tryz.prog 198) := @runsPT_ok Tryz.prog PP3 G3 198 Tryz.f198 hf198 hb198 pt18_1 cfr18_1
theorem okp18_2 : pt18_2.allP (CPOK Tryz.prog 198) := @runsPT_ok Tryz.prog PP3 G3 198 Tryz.f198 hf198 hb198 pt18_2 cfr18_2
theorem okp18_3 : pt18_3.allP (CPOK Tryz.prog 198) := @runsPT_ok Tryz.prog PP3 G3 198 Tryz.f198 hf198 hb198 pt18_3 cfr18_3
theorem okp18_4 : pt18_4.allP (CPOK Tryz.prog 198) := @runsPT_ok Tryz.prog PP3 G3 198 Tryz.f198 hf198 hb198 pt18_4 cfr18_4
theorem okp19_0 : pt19_0.allP (CPOK Tryz.prog 198) := @runsPT_ok Tryz.prog PP3 G3 198 Tryz.f198 hf198 hb198 pt19_0 cfr19_0
theorem okt0 : pt0.allP (CPOK Tryz.prog 198) := by
  unfold pt0
  exact okp0_0
theorem GM0 : PgOK Tryz.prog PM0 := @PgOK.addFr Tryz.prog PP3 G3 195 Tryz.f195 hf195 hb195 clk0 ((fun _ h => nomatch h))
theorem GL0 : PgOK Tryz.prog PL0 := @PgOK.addPick Tryz.prog PM0 GM0 198 Tryz.f198 hf198 hb198 (pickAt 3525 3 pt0) (pickAt_ok okt0)
theorem okt1 : pt1.allP (CPOK Tryz.prog 198) := by
  unfold pt1
  exact okp1_0
theorem GM1 : PgOK Tryz.prog PM1 := @PgOK.addFr Tryz.prog PP3 G3 195 Tryz.f195 hf195 hb195 clk1 ((fun _ h => nomatch h))
theorem GL1 : PgOK Tryz.prog PL1 := @PgOK.addPick Tryz.prog PM1 GM1 198 Tryz.f198 hf198 hb198 (pickAt 7525 3 pt1) (pickAt_ok okt1)
theorem okt2 : pt2.allP (CPOK Tryz.prog 198) := by
  unfold pt2
  exact okp2_0
theorem GM2 : PgOK Tryz.prog PM2 := @PgOK.addFr Tryz.prog PP3 G3 195 Tryz.f195 hf195 hb195 clk2 ((fun _ h => nomatch h))
theorem GL2 : PgOK Tryz.prog PL2 := @PgOK.addPick Tryz.prog PM2 GM2 198 Tryz.f198 hf198 hb198 (pickAt 13525 3 pt2) (pickAt_ok okt2)
theorem okt3 : pt3.allP (CPOK Tryz.prog 198) := by
  unfold pt3
  exact okp3_0
theorem GM3 : PgOK Tryz.prog PM3 := @PgOK.addFr Tryz.prog PP3 G3 195 Tryz.f195 hf195 hb195 clk3 ((fun _ h => nomatch h))
theorem GL3 : PgOK Tryz.prog PL3 := @PgOK.addPick Tryz.prog PM3 GM3 198 Tryz.f198 hf198 hb198 (pickAt 22606 6 pt3) (pickAt_ok okt3)
theorem okt4 : pt4.allP (CPOK Tryz.prog 198) := by
  unfold pt4
  exact okp4_0
theorem GM4 : PgOK Tryz.prog PM4 := @PgOK.addFr Tryz.prog PP3 G3 195 Tryz.f195 hf195 hb195 clk4 ((fun _ h => nomatch h))
theorem GL4 : PgOK Tryz.prog PL4 := @PgOK.addPick Tryz.prog PM4 GM4 198 Tryz.f198 hf198 hb198 (pickAt 24588 5 pt4) (pickAt_ok okt4)
theorem okt5 : pt5.allP (CPOK Tryz.prog 198) := by
  unfold pt5
  exact okp5_0
theorem GM5 : PgOK Tryz.prog PM5 := @PgOK.addFr Tryz.prog PP3 G3 195 Tryz.f195 hf195 hb195 clk5 ((fun _ h => nomatch h))
theorem GL5 : PgOK Tryz.prog PL5 := @PgOK.addPick Tryz.prog PM5 GM5 198 Tryz.f198 hf198 hb198 (pickAt 28588 5 pt5) (pickAt_ok okt5)
theorem okt6 : pt6.allP (CPOK Tryz.prog 198) := by
  unfold pt6
  exact okp6_0
theorem GM6 : PgOK Tryz.prog PM6 := @PgOK.addFr Tryz.prog PP3 G3 195 Tryz.f195 hf195 hb195 clk6 ((fun _ h => nomatch h))
theorem GL6 : PgOK Tryz.prog PL6 := @PgOK.addPick Tryz.prog PM6 GM6 198 Tryz.f198 hf198 hb198 (pickAt 12606 6 pt6) (pickAt_ok okt6)
theorem okt7 : pt7.allP (CPOK Tryz.prog 198) := by
  unfold pt7
  exact okp7_0
theorem GM7 : PgOK Tryz.prog PM7 := @PgOK.addFr Tryz.prog PP3 G3 195 Tryz.f195 hf195 hb195 clk7 ((fun _ h => nomatch h))
theorem GL7 : PgOK Tryz.prog PL7 := @PgOK.addPick Tryz.prog PM7 GM7 198 Tryz.f198 hf198 hb198 (pickAt 7525 3 pt7) (pickAt_ok okt7)
theorem okt8 : pt8.allP (CPOK Tryz.prog 198) := by
  unfold pt8
  exact okp8_0
theorem GM8 : PgOK Tryz.prog PM8 := @PgOK.addFr Tryz.prog PP3 G3 195 Tryz.f195 hf195 hb195 clk8 ((fun _ h => nomatch h))
theorem GL8 : PgOK Tryz.prog PL8 := @PgOK.addPick Tryz.prog PM8 GM8 198 Tryz.f198 hf198 hb198 (pickAt 13525 3 pt8) (pickAt_ok okt8)
theorem okt9 : pt9.allP (CPOK Tryz.prog 198) := by
  unfold pt9
  exact okp9_0
theorem GM9 : PgOK Tryz.prog PM9 := @PgOK.addFr Tryz.prog PP3 G3 195 Tryz.f195 hf195 hb195 clk9 ((fun _ h => nomatch h))
theorem GL9 : PgOK Tryz.prog PL9 := @PgOK.addPick Tryz.prog PM9 GM9 198 Tryz.f198 hf198 hb198 (pickAt 22606 6 pt9) (pickAt_ok okt9)
theorem okt10 : pt10.allP (CPOK Tryz.prog 198) := by
  unfold pt10
  exact okp10_0
theorem GM10 : PgOK Tryz.prog PM10 := @PgOK.addFr Tryz.prog PP3 G3 195 Tryz.f195 hf195 hb195 clk10 ((fun _ h => nomatch h))
theorem GL10 : PgOK Tryz.prog PL10 := @PgOK.addPick Tryz.prog PM10 GM10 198 Tryz.f198 hf198 hb198 (pickAt 26606 6 pt10) (pickAt_ok okt10)
theorem okt11 : pt11.allP (CPOK Tryz.prog 198) := by
  unfold pt11
  exact (PT.allP_br okp11_4 (PT.allP_br okp11_3 (PT.allP_br okp11_2 (PT.allP_br okp11_1 (PT.allP_br okp11_0 PT.allP_none)))))
theorem GM11 : PgOK Tryz.prog PM11 := @PgOK.addFr Tryz.prog PP3 G3 195 Tryz.f195 hf195 hb195 clk11 (List.forall_mem_cons.2 ⟨@cp_ok Tryz.prog PP3 G3 200 195 Tryz.f195 hf195 hb195 ck11_0 crk11_0, List.forall_mem_cons.2 ⟨@cp_ok Tryz.prog PP3 G3 200 195 Tryz.f195 hf195 hb195 ck11_1 crk11_1, (fun _ h => nomatch h)⟩⟩)
theorem GL11 : PgOK Tryz.prog PL11 := @PgOK.addPick Tryz.prog PM11 GM11 198 Tryz.f198 hf198 hb198 (pickAt 29645 7 pt11) (pickAt_ok okt11)
theorem okt12 : pt12.allP (CPOK Tryz.prog 198) := by
  unfold pt12
  exact (PT.allP_br okp12_4 (PT.allP_br okp12_3 (PT.allP_br okp12_2 (PT.allP_br okp12_1 (PT.allP_br okp12_0 PT.allP_none)))))
theorem GM12 : PgOK Tryz.prog PM12 := @PgOK.addFr Tryz.prog PP3 G3 195 Tryz.f195 hf195 hb195 clk12 (List.forall_mem_cons.2 ⟨@cp_ok Tryz.prog PP3 G3 200 195 Tryz.f195 hf195 hb195 ck12_0 crk12_0, List.forall_mem_cons.2 ⟨@cp_ok Tryz.prog PP3 G3 200 195 Tryz.f195 hf195 hb195 ck12_1 crk12_1, (fun _ h => nomatch h)⟩⟩)
theorem GL12 : PgOK Tryz.prog PL12 := @PgOK.addPick Tryz.prog PM12 GM12 198 Tryz.f198 hf198 hb198 (pickAt 34645 7 pt12) (pickAt_ok okt12)
theorem okt13 : pt13.allP (CPOK Tryz.prog 198) := by
  unfold pt13
  exact okp13_0
theorem GM13 : PgOK Tryz.prog PM13 := @PgOK.addFr Tryz.prog PP3 G3 195 Tryz.f195 hf195 hb195 clk13 ((fun _ h => nomatch h))
theorem GL13 : PgOK Tryz.prog PL13 := @PgOK.addPick Tryz.prog PM13 GM13 198 Tryz.f198 hf198 hb198 (pickAt 12606 6 pt13) (pickAt_ok okt13)
theorem okt14 : pt14.allP (CPOK Tryz.prog 198) := by
  unfold pt14
  exact okp14_0
theorem GM14 : PgOK Tryz.prog PM14 := @PgOK.addFr Tryz.prog PP3 G3 195 Tryz.f195 hf195 hb195 clk14 ((fun _ h => nomatch h))
theorem GL14 : PgOK Tryz.prog PL14 := @PgOK.addPick Tryz.prog PM14 GM14 198 Tryz.f198 hf198 hb198 (pickAt 17525 3 pt14) (pickAt_ok okt14)
theorem okt15 : pt15.allP (CPOK Tryz.prog 198) := by
  unfold pt15
  exact okp15_0
theorem GM15 : PgOK Tryz.prog PM15 := @PgOK.addFr Tryz.prog PP3 G3 195 Tryz.f195 hf195 hb195 clk15 ((fun _ h => nomatch h))
theorem GL15 : PgOK Tryz.prog PL15 := @PgOK.addPick Tryz.prog PM15 GM15 198 Tryz.f198 hf198 hb198 (pickAt 19606 6 pt15) (pickAt_ok okt15)
theorem okt16 : pt16.allP (CPOK Tryz.prog 198) := by
  unfold pt16
  exact (PT.allP_br okp16_4 (PT.allP_br okp16_3 (PT.allP_br okp16_2 (PT.allP_br okp16_1 (PT.allP_br okp16_0 PT.allP_none)))))
theorem GM16 : PgOK Tryz.prog PM16 := @PgOK.addFr Tryz.prog PP3 G3 195 Tryz.f195 hf195 hb195 clk16 (List.forall_mem_cons.2 ⟨@cp_ok Tryz.prog PP3 G3 200 195 Tryz.f195 hf195 hb195 ck16_0 crk16_0, List.forall_mem_cons.2 ⟨@cp_ok Tryz.prog PP3 G3 200 195 Tryz.f195 hf195 hb195 ck16_1 crk16_1, (fun _ h => nomatch h)⟩⟩)
theorem GL16 : PgOK Tryz.prog PL16 := @PgOK.addPick Tryz.prog PM16 GM16 198 Tryz.f198 hf198 hb198 (pickAt 41645 7 pt16) (pickAt_ok okt16)
theorem okt17 : pt17.allP (CPOK Tryz.prog 198) := by
  unfold pt17
  exact okp17_0
theorem GM17 : PgOK Tryz.prog PM17 := @PgOK.addFr Tryz.prog PP3 G3 195 Tryz.f195 hf195 hb195 clk17 ((fun _ h => nomatch h))
theorem GL17 : PgOK Tryz.prog PL17 := @PgOK.addPick Tryz.prog PM17 GM17 198 Tryz.f198 hf198 hb198 (pickAt 46606 6 pt17) (pickAt_ok okt17)
theorem okt18 : pt18.allP (CPOK Tryz.prog 198) := by
  unfold pt18
  exact (PT.allP_br okp18_4 (PT.allP_br okp18_3 (PT.allP_br okp18_2 (PT.allP_br okp18_1 (PT.allP_br okp18_0 PT.allP_none)))))
theorem GM18 : PgOK Tryz.prog PM18 := @PgOK.addFr Tryz.prog PP3 G3 195 Tryz.f195 hf195 hb195 clk18 (List.forall_mem_cons.2 ⟨@cp_ok Tryz.prog PP3 G3 200 195 Tryz.f195 hf195 hb195 ck18_0 crk18_0, List.forall_mem_cons.2 ⟨@cp_ok Tryz.prog PP3 G3 200 195 Tryz.f195 hf195 hb195 ck18_1 crk18_1, (fun _ h => nomatch h)⟩⟩)
theorem GL18 : PgOK Tryz.prog PL18 := @PgOK.addPick Tryz.prog PM18 GM18 198 Tryz.f198 hf198 hb198 (pickAt 49645 7 pt18) (pickAt_ok okt18)
theorem okt19 : pt19.allP (CPOK Tryz.prog 198) := by
  unfold pt19
  exact okp19_0
theorem GM19 : PgOK Tryz.prog PM19 := @PgOK.addFr Tryz.prog PP3 G3 195 Tryz.f195 hf195 hb195 clk19 ((fun _ h => nomatch h))
theorem GL19 : PgOK Tryz.prog PL19 := @PgOK.addPick Tryz.prog PM19 GM19 198 Tryz.f198 hf198 hb198 (pickAt 33525 3 pt19) (pickAt_ok okt19)
theorem ok1 : CPOK Tryz.prog 133 cp1 := @cp_ok Tryz.prog PL0 GL0 200 133 Tryz.f133 hf133 hb133 cp1 cr1
theorem ok3 : CPOK Tryz.prog 133 cp3 := @cp_ok Tryz.prog PL1 GL1 200 133 Tryz.f133 hf133 hb133 cp3 cr3
theorem ok5 : CPOK Tryz.prog 133 cp5 := ren_ok rn5 ok3
theorem ok7 : CPOK Tryz.prog 133 cp7 := @cp_ok Tryz.prog PL2 GL2 200 133 Tryz.f133 hf133 hb133 cp7 cr7
theorem ok9 : CPOK Tryz.prog 133 cp9 := ren_ok rn9 ok7
theorem ok11 : CPOK Tryz.prog 133 cp11 := ren_ok rn11 ok7
theorem ok13 : CPOK Tryz.prog 133 cp13 := ren_ok rn13 ok7
theorem ok14 : CPOK Tryz.prog 133 cp14 := @cp_ok Tryz.prog PL3 GL3 200 133 Tryz.f133 hf133 hb133 cp14 cr14
theorem ok15 : CPOK Tryz.prog 133 cp15 := @cp_ok Tryz.prog PL4 GL4 200 133 Tryz.f133 hf133 hb133 cp15 cr15
theorem ok17 : CPOK Tryz.prog 133 cp17 := @cp_ok Tryz.prog PL5 GL5 200 133 Tryz.f133 hf133 hb133 cp17 cr17
theorem ok31 : CPOK Tryz.prog 133 cp31 := @cp_ok Tryz.prog PL6 GL6 200 133 Tryz.f133 hf133 hb133 cp31 cr31
theorem ok33 : CPOK Tryz.prog 133 cp33 := ren_ok rn33 ok7
theorem ok34 : CPOK Tryz.prog 133 cp34 := ren_ok rn34 ok14
theorem ok36 : CPOK Tryz.prog 133 cp36 := ren_ok rn36 ok7
theorem ok37 : CPOK Tryz.prog 133 cp37 := ren_ok rn37 ok14
theorem ok39 : CPOK Tryz.prog 133 cp39 := ren_ok rn39 ok7
theorem ok40 : CPOK Tryz.prog 133 cp40 := ren_ok rn40 ok14
theorem ok42 : CPOK Tryz.prog 133 cp42 := ren_ok rn42 ok7
theorem ok43 : CPOK Tryz.prog 133 cp43 := ren_ok rn43 ok14
theorem ok44 : CPOK Tryz.prog 133 cp44 := ren_ok rn44 ok14
theorem ok45 : CPOK Tryz.prog 133 cp45 := ren_ok rn45 ok15
theorem ok47 : CPOK Tryz.prog 133 cp47 := ren_ok rn47 ok17
theorem ok58 : CPOK Tryz.prog 133 cp58 := @cp_ok Tryz.prog PL7 GL7 200 133 Tryz.f133 hf133 hb133 cp58 cr58
theorem ok60 : CPOK Tryz.prog 133 cp60 := ren_ok rn60 ok58
theorem ok62 : CPOK Tryz.prog 133 cp62 := @cp_ok Tryz.prog PL8 GL8 200 133 Tryz.f133 hf133 hb133 cp62 cr62
theorem ok64 : CPOK Tryz.prog 133 cp64 := ren_ok rn64 ok62
theorem ok66 : CPOK Tryz.prog 133 cp66 := ren_ok rn66 ok62
theorem ok68 : CPOK Tryz.prog 133 cp68 := ren_ok rn68 ok62
theorem ok69 : CPOK Tryz.prog 133 cp69 := @cp_ok Tryz.prog PL9 GL9 200 133 Tryz.f133 hf133 hb133 cp69 cr69
theorem ok71 : CPOK Tryz.prog 133 cp71 := @cp_ok Tryz.prog PL10 GL10 200 133 Tryz.f133 hf133 hb133 cp71 cr71
theorem ok72 : CPOK Tryz.prog 133 cp72 := @cp_ok Tryz.prog PL11 GL11 200 133 Tryz.f133 hf133 hb133 cp72 cr72
theorem ok74 : CPOK Tryz.prog 133 cp74 := @cp_ok Tryz.prog PL12 GL12 200 133 Tryz.f133 hf133 hb133 cp74 cr74
theorem ok85 : CPOK Tryz.prog 133 cp85 := @cp_ok Tryz.prog PL13 GL13 200 133 Tryz.f133 hf133 hb133 cp85 cr85
theorem ok87 : CPOK Tryz.prog 133 cp87 := @cp_ok Tryz.prog PL14 GL14 200 133 Tryz.f133 hf133 hb133 cp87 cr87
theorem ok88 : CPOK Tryz.prog 133 cp88 := @cp_ok Tryz.prog PL15 GL15 200 133 Tryz.f133 hf133 hb133 cp88 cr88
theorem ok90 : CPOK Tryz.prog 133 cp90 := ren_ok rn90 ok87
theorem ok91 : CPOK Tryz.prog 133 cp91 := ren_ok rn91 ok88
theorem ok93 : CPOK Tryz.prog 133 cp93 := ren_ok rn93 ok87
theorem ok94 : CPOK Tryz.prog 133 cp94 := ren_ok rn94 ok88
theorem ok96 : CPOK Tryz.prog 133 cp96 := ren_ok rn96 ok87
theorem ok97 : CPOK Tryz.prog 133 cp97 := ren_ok rn97 ok88
theorem ok98 : CPOK Tryz.prog 133 cp98 := ren_ok rn98 ok88
theorem ok99 : CPOK Tryz.prog 133 cp99 := @cp_ok Tryz.prog PL16 GL16 200 133 Tryz.f133 hf133 hb133 cp99 cr99
theorem ok101 : CPOK Tryz.prog 133 cp101 := @cp_ok Tryz.prog PL17 GL17 200 133 Tryz.f133 hf133 hb133 cp101 cr101
theorem ok102 : CPOK Tryz.prog 133 cp102 := @cp_ok Tryz.prog PL18 GL18 200 133 Tryz.f133 hf133 hb133 cp102 cr102
theorem ok103 : CPOK Tryz.prog 133 cp103 := ren_ok rn103 ok102
theorem ok105 : CPOK Tryz.prog 133 cp105 := ren_ok rn105 ok102
theorem ok110 : CPOK Tryz.prog 133 cp110 := ren_ok rn110 ok99
theorem ok112 : CPOK Tryz.prog 133 cp112 := @cp_ok Tryz.prog PL19 GL19 200 133 Tryz.f133 hf133 hb133 cp112 cr112
theorem ok113 : CPOK Tryz.prog 133 cp113 := ren_ok rn113 ok101
theorem ok114 : CPOK Tryz.prog 133 cp114 := ren_ok rn114 ok102
theorem ok116 : CPOK Tryz.prog 133 cp116 := ren_ok rn116 ok112
theorem ok117 : CPOK Tryz.prog 133 cp117 := ren_ok rn117 ok101
theorem ok118 : CPOK Tryz.prog 133 cp118 := ren_ok rn118 ok102
theorem ok119 : CPOK Tryz.prog 133 cp119 := ren_ok rn119 ok101
theorem ok120 : CPOK Tryz.prog 133 cp120 := ren_ok rn120 ok102
theorem ok122 : CPOK Tryz.prog 133 cp122 := ren_ok rn122 ok101
theorem ok123 : CPOK Tryz.prog 133 cp123 := ren_ok rn123 ok102
theorem ok124 : CPOK Tryz.prog 133 cp124 := ren_ok rn124 ok102
theorem ok126 : CPOK Tryz.prog 133 cp126 := ren_ok rn126 ok102
theorem G4 : PgOK Tryz.prog PP4 := @PgOK.addFr Tryz.prog PP3 G3 133 Tryz.f133 hf133 hb133 clO (List.forall_mem_cons.2 ⟨ok1, List.forall_mem_cons.2 ⟨ok3, List.forall_mem_cons.2 ⟨ok5, List.forall_mem_cons.2 ⟨ok7, List.forall_mem_cons.2 ⟨ok9, List.forall_mem_cons.2 ⟨ok11, List.forall_mem_cons.2 ⟨ok13, List.forall_mem_cons.2 ⟨ok14, List.forall_mem_cons.2 ⟨ok15, List.forall_mem_cons.2 ⟨ok17, List.forall_mem_cons.2 ⟨ok31, List.forall_mem_cons.2 ⟨ok33, List.forall_mem_cons.2 ⟨ok34, List.forall_mem_cons.2 ⟨ok36, List.forall_mem_cons.2 ⟨ok37, List.forall_mem_cons.2 ⟨ok39, List.forall_mem_cons.2 ⟨ok40, List.forall_mem_cons.2 ⟨ok42, List.forall_mem_cons.2 ⟨ok43, List.forall_mem_cons.2 ⟨ok44, List.forall_mem_cons.2 ⟨ok45, List.forall_mem_cons.2 ⟨ok47, List.forall_mem_cons.2 ⟨ok58, List.forall_mem_cons.2 ⟨ok60, List.forall_mem_cons.2 ⟨ok62, List.forall_mem_cons.2 ⟨ok64, List.forall_mem_cons.2 ⟨ok66, List.forall_mem_cons.2 ⟨ok68, List.forall_mem_cons.2 ⟨ok69, List.forall_mem_cons.2 ⟨ok71, List.forall_mem_cons.2 ⟨ok72, List.forall_mem_cons.2 ⟨ok74, List.forall_mem_cons.2 ⟨ok85, List.forall_mem_cons.2 ⟨ok87, List.forall_mem_cons.2 ⟨ok88, List.forall_mem_cons.2 ⟨ok90, List.forall_mem_cons.2 ⟨ok91, List.forall_mem_cons.2 ⟨ok93, List.forall_mem_cons.2 ⟨ok94, List.forall_mem_cons.2 ⟨ok96, List.forall_mem_cons.2 ⟨ok97, List.forall_mem_cons.2 ⟨ok98, List.forall_mem_cons.2 ⟨ok99, List.forall_mem_cons.2 ⟨ok101, List.forall_mem_cons.2 ⟨ok102, List.forall_mem_cons.2 ⟨ok103, List.forall_mem_cons.2 ⟨ok105, List.forall_mem_cons.2 ⟨ok110, List.forall_mem_cons.2 ⟨ok112, List.forall_mem_cons.2 ⟨ok113, List.forall_mem_cons.2 ⟨ok114, List.forall_mem_cons.2 ⟨ok116, List.forall_mem_cons.2 ⟨ok117, List.forall_mem_cons.2 ⟨ok118, List.forall_mem_cons.2 ⟨ok119, List.forall_mem_cons.2 ⟨ok120, List.forall_mem_cons.2 ⟨ok122, List.forall_mem_cons.2 ⟨ok123, List.forall_mem_cons.2 ⟨ok124, List.forall_mem_cons.2 ⟨ok126, (fun _ h => nomatch h)⟩⟩⟩⟩⟩⟩⟩⟩⟩⟩⟩⟩⟩⟩⟩⟩⟩⟩⟩⟩⟩⟩⟩⟩⟩⟩⟩⟩⟩⟩⟩⟩⟩⟩⟩⟩⟩⟩⟩⟩⟩⟩⟩⟩⟩⟩⟩⟩⟩⟩⟩⟩⟩⟩⟩⟩⟩⟩⟩⟩)
theorem ok0 : CPOK Tryz.prog 18 cp0 := @cp_ok Tryz.prog PP4 G4 200 18 Tryz.f18 hf18 hb18 cp0 cr0
theorem ok2 : CPOK Tryz.prog 18 cp2 := @cp_ok Tryz.prog PP4 G4 200 18 Tryz.f18 hf18 hb18 cp2 cr2
theorem ok4 : CPOK Tryz.prog 18 cp4 := @cp_ok Tryz.prog PP4 G4 200 18 Tryz.f18 hf18 hb18 cp4 cr4
theorem ok6 : CPOK Tryz.prog 18 cp6 := @cp_ok Tryz.prog PP4 G4 200 18 Tryz.f18 hf18 hb18 cp6 cr6
theorem ok8 : CPOK Tryz.prog 18 cp8 := @cp_ok Tryz.prog PP4 G4 200 18 Tryz.f18 hf18 hb18 cp8 cr8
theorem ok10 : CPOK Tryz.prog 18 cp10 := @cp_ok Tryz.prog PP4 G4 200 18 Tryz.f18 hf18 hb18 cp10 cr10
theorem ok12 : CPOK Tryz.prog 18 cp12 := @cp_ok Tryz.prog PP4 G4 200 18 Tryz.f18 hf18 hb18 cp12 cr12
theorem ok16 : CPOK Tryz.prog 18 cp16 := @cp_ok Tryz.prog PP4 G4 200 18 Tryz.f18 hf18 hb18 cp16 cr16
theorem ok18 : CPOK Tryz.prog 18 cp18 := @cp_ok Tryz.prog PP4 G4 200 18 Tryz.f18 hf18 hb18 cp18 cr18
theorem ok19 : CPOK Tryz.prog 18 cp19 := @cp_ok Tryz.prog PP4 G4 200 18 Tryz.f18 hf18 hb18 cp19 cr19
theorem ok20 : CPOK Tryz.prog 18 cp20 := @cp_ok Tryz.prog PP4 G4 200 18 Tryz.f18 hf18 hb18 cp20 cr20
theorem ok21 : CPOK Tryz.prog 18 cp21 := @cp_ok Tryz.prog PP4 G4 200 18 Tryz.f18 hf18 hb18 cp21 cr21
theorem ok22 : CPOK Tryz.prog 18 cp22 := @cp_ok Tryz.prog PP4 G4 200 18 Tryz.f18 hf18 hb18 cp22 cr22
theorem ok23 : CPOK Tryz.prog 18 cp23 := @cp_ok Tryz.prog PP4 G4 200 18 Tryz.f18 hf18 hb18 cp23 cr23
theorem ok24 : CPOK Tryz.prog 18 cp24 := @cp_ok Tryz.prog PP4 G4 200 18 Tryz.f18 hf18 hb18 cp24 cr24
theorem ok25 : CPOK Tryz.prog 18 cp25 := @cp_ok Tryz.prog PP4 G4 200 18 Tryz.f18 hf18 hb18 cp25 cr25
theorem ok26 : CPOK Tryz.prog 18 cp26 := @cp_ok Tryz.prog PP4 G4 200 18 Tryz.f18 hf18 hb18 cp26 cr26
theorem ok27 : CPOK Tryz.prog 18 cp27 := @cp_ok Tryz.prog PP4 G4 200 18 Tryz.f18 hf18 hb18 cp27 cr27
theorem ok28 : CPOK Tryz.prog 18 cp28 := @cp_ok Tryz.prog PP4 G4 200 18 Tryz.f18 hf18 hb18 cp28 cr28
theorem ok29 : CPOK Tryz.prog 18 cp29 := @cp_ok Tryz.prog PP4 G4 200 18 Tryz.f18 hf18 hb18 cp29 cr29
theorem ok30 : CPOK Tryz.prog 18 cp30 := @cp_ok Tryz.prog PP4 G4 200 18 Tryz.f18 hf18 hb18 cp30 cr30
theorem ok32 : CPOK Tryz.prog 18 cp32 := @cp_ok Tryz.prog PP4 G4 200 18 Tryz.f18 hf18 hb18 cp32 cr32
theorem ok35 : CPOK Tryz.prog 18 cp35 := @cp_ok Tryz.prog PP4 G4 200 18 Tryz.f18 hf18 hb18 cp35 cr35
theorem ok38 : CPOK Tryz.prog 18 cp38 := @cp_ok Tryz.prog PP4 G4 200 18 Tryz.f18 hf18 hb18 cp38 cr38
theorem ok41 : CPOK Tryz.prog 18 cp41 := @cp_ok Tryz.prog PP4 G4 200 18 Tryz.f18 hf18 hb18 cp41 cr41
theorem ok46 : CPOK Tryz.prog 18 cp46 := @cp_ok Tryz.prog PP4 G4 200 18 Tryz.f18 hf18 hb18 cp46 cr46
theorem ok48 : CPOK Tryz.prog 18 cp48 := @cp_ok Tryz.prog PP4 G4 200 18 Tryz.f18 hf18 hb18 cp48 cr48
theorem ok49 : CPOK Tryz.prog 18 cp49 := @cp_ok Tryz.prog PP4 G4 200 18 Tryz.f18 hf18 hb18 cp49 cr49
theorem ok50 : CPOK Tryz.prog 18 cp50 := @cp_ok Tryz.prog PP4 G4 200 18 Tryz.f18 hf18 hb18 cp50 cr50
theorem ok51 : CPOK Tryz.prog 18 cp51 := @cp_ok Tryz.prog PP4 G4 200 18 Tryz.f18 hf18 hb18 cp51 cr51
theorem ok52 : CPOK Tryz.prog 18 cp52 := @cp_ok Tryz.prog PP4 G4 200 18 Tryz.f18 hf18 hb18 cp52 cr52
theorem ok53 : CPOK Tryz.prog 18 cp53 := @cp_ok Tryz.prog PP4 G4 200 18 Tryz.f18 hf18 hb18 cp53 cr53
theorem ok54 : CPOK Tryz.prog 18 cp54 := @cp_ok Tryz.prog PP4 G4 200 18 Tryz.f18 hf18 hb18 cp54 cr54
theorem ok55 : CPOK Tryz.prog 18 cp55 := @cp_ok Tryz.prog PP4 G4 200 18 Tryz.f18 hf18 hb18 cp55 cr55
theorem ok56 : CPOK Tryz.prog 18 cp56 := @cp_ok Tryz.prog PP4 G4 200 18 Tryz.f18 hf18 hb18 cp56 cr56
theorem ok57 : CPOK Tryz.prog 18 cp57 := @cp_ok Tryz.prog PP4 G4 200 18 Tryz.f18 hf18 hb18 cp57 cr57
theorem ok59 : CPOK Tryz.prog 18 cp59 := @cp_ok Tryz.prog PP4 G4 200 18 Tryz.f18 hf18 hb18 cp59 cr59
theorem ok61 : CPOK Tryz.prog 18 cp61 := @cp_ok Tryz.prog PP4 G4 200 18 Tryz.f18 hf18 hb18 cp61 cr61
theorem ok63 : CPOK Tryz.prog 18 cp63 := @cp_ok Tryz.prog PP4 G4 200 18 Tryz.f18 hf18 hb18 cp63 cr63
theorem ok65 : CPOK Tryz.prog 18 cp65 := @cp_ok Tryz.prog PP4 G4 200 18 Tryz.f18 hf18 hb18 cp65 cr65
theorem ok67 : CPOK Tryz.prog 18 cp67 := @cp_ok Tryz.prog PP4 G4 200 18 Tryz.f18 hf18 hb18 cp67 cr67
theorem ok70 : CPOK Tryz.prog 18 cp70 := @cp_ok Tryz.prog PP4 G4 200 18 Tryz.f18 hf18 hb18 cp70 cr70
theorem ok73 : CPOK Tryz.prog 18 cp73 := @cp_ok Tryz.prog PP4 G4 200 18 Tryz.f18 hf18 hb18 cp73 cr73
theorem ok75 : CPOK Tryz.prog 18 cp75 := @cp_ok Tryz.prog PP4 G4 200 18 Tryz.f18 hf18 hb18 cp75 cr75
theorem ok76 : CPOK Tryz.prog 18 cp76 := @cp_ok Tryz.prog PP4 G4 200 18 Tryz.f18 hf18 hb18 cp76 cr76
theorem ok77 : CPOK Tryz.prog 18 cp77 := @cp_ok Tryz.prog PP4 G4 200 18 Tryz.f18 hf18 hb18 cp77 cr77
theorem ok78 : CPOK Tryz.prog 18 cp78 := @cp_ok Tryz.prog PP4 G4 200 18 Tryz.f18 hf18 hb18 cp78 cr78
theorem ok79 : CPOK Tryz.prog 18 cp79 := @cp_ok Tryz.prog PP4 G4 200 18 Tryz.f18 hf18 hb18 cp79 cr79
theorem ok80 : CPOK Tryz.prog 18 cp80 := @cp_ok Tryz.prog PP4 G4 200 18 Tryz.f18 hf18 hb18 cp80 cr80
theorem ok81 : CPOK Tryz.prog 18 cp81 := @cp_ok Tryz.prog PP4 G4 200 18 Tryz.f18 hf18 hb18 cp81 cr81
theorem ok82 : CPOK Tryz.prog 18 cp82 := @cp_ok Tryz.prog PP4 G4 200 18 Tryz.f18 hf18 hb18 cp82 cr82
theorem ok83 : CPOK Tryz.prog 18 cp83 := @cp_ok Tryz.prog PP4 G4 200 18 Tryz.f18 hf18 hb18 cp83 cr83
theorem ok84 : CPOK Tryz.prog 18 cp84 := @cp_ok Tryz.prog PP4 G4 200 18 Tryz.f18 hf18 hb18 cp84 cr84
theorem ok86 : CPOK Tryz.prog 18 cp86 := @cp_ok Tryz.prog PP4 G4 200 18 Tryz.f18 hf18 hb18 cp86 cr86
theorem ok89 : CPOK Tryz.prog 18 cp89 := @cp_ok Tryz.prog PP4 G4 200 18 Tryz.f18 hf18 hb18 cp89 cr89
theorem ok92 : CPOK Tryz.prog 18 cp92 := @cp_ok Tryz.prog PP4 G4 200 18 Tryz.f18 hf18 hb18 cp92 cr92
theorem ok95 : CPOK Tryz.prog 18 cp95 := @cp_ok Tryz.prog PP4 G4 200 18 Tryz.f18 hf18 hb18 cp95 cr95
theorem ok100 : CPOK Tryz.prog 18 cp100 := @cp_ok Tryz.prog PP4 G4 200 18 Tryz.f18 hf18 hb18 cp100 cr100
theorem ok104 : CPOK Tryz.prog 18 cp104 := @cp_ok Tryz.prog PP4 G4 200 18 Tryz.f18 hf18 hb18 cp104 cr104
theorem ok106 : CPOK Tryz.prog 18 cp106 := @cp_ok Tryz.prog PP4 G4 200 18 Tryz.f18 hf18 hb18 cp106 cr106
theorem ok107 : CPOK Tryz.prog 18 cp107 := @cp_ok Tryz.prog PP4 G4 200 18 Tryz.f18 hf18 hb18 cp107 cr107
theorem ok108 : CPOK Tryz.prog 18 cp108 := @cp_ok Tryz.prog PP4 G4 200 18 Tryz.f18 hf18 hb18 cp108 cr108
theorem ok109 : CPOK Tryz.prog 18 cp109 := @cp_ok Tryz.prog PP4 G4 200 18 Tryz.f18 hf18 hb18 cp109 cr109
theorem G4s : PgOK Tryz.prog PP4s := @PgOK.addFr Tryz.prog PP4 G4 133 Tryz.f133 hf133 hb133 (cp110 :: clO) (List.forall_mem_cons.2 ⟨ok110, List.forall_mem_cons.2 ⟨ok1, List.forall_mem_cons.2 ⟨ok3, List.forall_mem_cons.2 ⟨ok5, List.forall_mem_cons.2 ⟨ok7, List.forall_mem_cons.2 ⟨ok9, List.forall_mem_cons.2 ⟨ok11, List.forall_mem_cons.2 ⟨ok13, List.forall_mem_cons.2 ⟨ok14, List.forall_mem_cons.2 ⟨ok15, List.forall_mem_cons.2 ⟨ok17, List.forall_mem_cons.2 ⟨ok31, List.forall_mem_cons.2 ⟨ok33, List.forall_mem_cons.2 ⟨ok34, List.forall_mem_cons.2 ⟨ok36, List.forall_mem_cons.2 ⟨ok37, List.forall_mem_cons.2 ⟨ok39, List.forall_mem_cons.2 ⟨ok40, List.forall_mem_cons.2 ⟨ok42, List.forall_mem_cons.2 ⟨ok43, List.forall_mem_cons.2 ⟨ok44, List.forall_mem_cons.2 ⟨ok45, List.forall_mem_cons.2 ⟨ok47, List.forall_mem_cons.2 ⟨ok58, List.forall_mem_cons.2 ⟨ok60, List.forall_mem_cons.2 ⟨ok62, List.forall_mem_cons.2 ⟨ok64, List.forall_mem_cons.2 ⟨ok66, List.forall_mem_cons.2 ⟨ok68, List.forall_mem_cons.2 ⟨ok69, List.forall_mem_cons.2 ⟨ok71, List.forall_mem_cons.2 ⟨ok72, List.forall_mem_cons.2 ⟨ok74, List.forall_mem_cons.2 ⟨ok85, List.forall_mem_cons.2 ⟨ok87, List.forall_mem_cons.2 ⟨ok88, List.forall_mem_cons.2 ⟨ok90, List.forall_mem_cons.2 ⟨ok91, List.forall_mem_cons.2 ⟨ok93, List.forall_mem_cons.2 ⟨ok94, List.forall_mem_cons.2 ⟨ok96, List.forall_mem_cons.2 ⟨ok97, List.forall_mem_cons.2 ⟨ok98, List.forall_mem_cons.2 ⟨ok99, List.forall_mem_cons.2 ⟨ok101, List.forall_mem_cons.2 ⟨ok102, List.forall_mem_cons.2 ⟨ok103, List.forall_mem_cons.2 ⟨ok105, List.forall_mem_cons.2 ⟨ok110, List.forall_mem_cons.2 ⟨ok112, List.forall_mem_cons.2 ⟨ok113, List.forall_mem_cons.2 ⟨ok114, List.forall_mem_cons.2 ⟨ok116, List.forall_mem_cons.2 ⟨ok117, List.forall_mem_cons.2 ⟨ok118, List.forall_mem_cons.2 ⟨ok119, List.forall_mem_cons.2 ⟨ok120, List.forall_mem_cons.2 ⟨ok122, List.forall_mem_cons.2 ⟨ok123, List.forall_mem_cons.2 ⟨ok124, List.forall_mem_cons.2 ⟨ok126, (fun _ h => nomatch h)⟩⟩⟩⟩⟩⟩⟩⟩⟩⟩⟩⟩⟩⟩⟩⟩⟩⟩⟩⟩⟩⟩⟩⟩⟩⟩⟩⟩⟩⟩⟩⟩⟩⟩⟩⟩⟩⟩⟩⟩⟩⟩⟩⟩⟩⟩⟩⟩⟩⟩⟩⟩⟩⟩⟩⟩⟩⟩⟩⟩⟩)
theorem ok111 : CPOK Tryz.prog 18 cp111 := @cp_ok Tryz.prog PP4s G4s 200 18 Tryz.f18 hf18 hb18 cp111 cr111
theorem ok115 : CPOK Tryz.prog 18 cp115 := @cp_ok Tryz.prog PP4 G4 200 18 Tryz.f18 hf18 hb18 cp115 cr115
theorem ok121 : CPOK Tryz.prog 18 cp121 := @cp_ok Tryz.prog PP4 G4 200 18 Tryz.f18 hf18 hb18 cp121 cr121
theorem ok125 : CPOK Tryz.prog 18 cp125 := @cp_ok Tryz.prog PP4 G4 200 18 Tryz.f18 hf18 hb18 cp125 cr125
theorem ok127 : CPOK Tryz.prog 18 cp127 := @cp_ok Tryz.prog PP4 G4 200 18 Tryz.f18 hf18 hb18 cp127 cr127
theorem GK0 : PgOK Tryz.prog PK0 := @PgOK.addCP Tryz.prog PP4 G4 18 Tryz.f18 hf18 hb18 clT0 (List.forall_mem_cons.2 ⟨ok0, List.forall_mem_cons.2 ⟨ok2, List.forall_mem_cons.2 ⟨ok4, List.forall_mem_cons.2 ⟨ok6, List.forall_mem_cons.2 ⟨ok8, List.forall_mem_cons.2 ⟨ok10, List.forall_mem_cons.2 ⟨ok12, List.forall_mem_cons.2 ⟨ok16, List.forall_mem_cons.2 ⟨ok18, (fun _ h => nomatch h)⟩⟩⟩⟩⟩⟩⟩⟩⟩)
theorem GK1 : PgOK Tryz.prog PK1 := @PgOK.addCP Tryz.prog PP4 G4 18 Tryz.f18 hf18 hb18 clT1 (List.forall_mem_cons.2 ⟨ok19, List.forall_mem_cons.2 ⟨ok20, List.forall_mem_cons.2 ⟨ok21, List.forall_mem_cons.2 ⟨ok22, List.forall_mem_cons.2 ⟨ok23, List.forall_mem_cons.2 ⟨ok24, List.forall_mem_cons.2 ⟨ok25, List.forall_mem_cons.2 ⟨ok26, List.forall_mem_cons.2 ⟨ok27, (fun _ h => nomatch h)⟩⟩⟩⟩⟩⟩⟩⟩⟩)
theorem GK2 : PgOK Tryz.prog PK2 := @PgOK.addCP Tryz.prog PP4 G4 18 Tryz.f18 hf18 hb18 clT2 (List.forall_mem_cons.2 ⟨ok28, List.forall_mem_cons.2 ⟨ok29, List.forall_mem_cons.2 ⟨ok30, List.forall_mem_cons.2 ⟨ok32, List.forall_mem_cons.2 ⟨ok35, List.forall_mem_cons.2 ⟨ok38, List.forall_mem_cons.2 ⟨ok41, List.forall_mem_cons.2 ⟨ok46, List.forall_mem_cons.2 ⟨ok48, (fun _ h => nomatch h)⟩⟩⟩⟩⟩⟩⟩⟩⟩)
theorem GK3 : PgOK Tryz.prog PK3 := @PgOK.addCP Tryz.prog PP4 G4 18 Tryz.f18 hf18 hb18 clT3 (List.forall_mem_cons.2 ⟨ok49, List.forall_mem_cons.2 ⟨ok50, List.forall_mem_cons.2 ⟨ok51, List.forall_mem_cons.2 ⟨ok52, List.forall_mem_cons.2 ⟨ok53, List.forall_mem_cons.2 ⟨ok54, List.forall_mem_cons.2 ⟨ok55, List.forall_mem_cons.2 ⟨ok56, List.forall_mem_cons.2 ⟨ok57, (fun _ h => nomatch h)⟩⟩⟩⟩⟩⟩⟩⟩⟩)
theorem GK4 : PgOK Tryz.prog PK4 := @PgOK.addCP Tryz.prog PP4 G4 18 Tryz.f18 hf18 hb18 clT4 (List.forall_mem_cons.2 ⟨ok0, List.forall_mem_cons.2 ⟨ok2, List.forall_mem_cons.2 ⟨ok59, List.forall_mem_cons.2 ⟨ok61, List.forall_mem_cons.2 ⟨ok63, List.forall_mem_cons.2 ⟨ok65, List.forall_mem_cons.2 ⟨ok67, List.forall_mem_cons.2 ⟨ok70, List.forall_mem_cons.2 ⟨ok73, List.forall_mem_cons.2 ⟨ok75, (fun _ h => nomatch h)⟩⟩⟩⟩⟩⟩⟩⟩⟩⟩)
theorem GK5 : PgOK Tryz.prog PK5 := @PgOK.addCP Tryz.prog PP4 G4 18 Tryz.f18 hf18 hb18 clT5 (List.forall_mem_cons.2 ⟨ok19, List.forall_mem_cons.2 ⟨ok20, List.forall_mem_cons.2 ⟨ok76, List.forall_mem_cons.2 ⟨ok77, List.forall_mem_cons.2 ⟨ok78, List.forall_mem_cons.2 ⟨ok79, List.forall_mem_cons.2 ⟨ok80, List.forall_mem_cons.2 ⟨ok81, List.forall_mem_cons.2 ⟨ok82, List.forall_mem_cons.2 ⟨ok83, (fun _ h => nomatch h)⟩⟩⟩⟩⟩⟩⟩⟩⟩⟩)
theorem GK6 : PgOK Tryz.prog PK6 := @PgOK.addCP Tryz.prog PP4 G4 18 Tryz.f18 hf18 hb18 clT6 (List.forall_mem_cons.2 ⟨ok28, List.forall_mem_cons.2 ⟨ok29, List.forall_mem_cons.2 ⟨ok84, List.forall_mem_cons.2 ⟨ok86, List.forall_mem_cons.2 ⟨ok89, List.forall_mem_cons.2 ⟨ok92, List.forall_mem_cons.2 ⟨ok95, List.forall_mem_cons.2 ⟨ok100, List.forall_mem_cons.2 ⟨ok104, List.forall_mem_cons.2 ⟨ok106, (fun _ h => nomatch h)⟩⟩⟩⟩⟩⟩⟩⟩⟩⟩)
theorem GK7 : PgOK Tryz.prog PK7 := @PgOK.addCP Tryz.prog PP4 G4 18 Tryz.f18 hf18 hb18 clT7 (List.forall_mem_cons.2 ⟨ok49, List.forall_mem_cons.2 ⟨ok50, List.forall_mem_cons.2 ⟨ok107, List.forall_mem_cons.2 ⟨ok108, List.forall_mem_cons.2 ⟨ok109, List.forall_mem_cons.2 ⟨ok111, List.forall_mem_cons.2 ⟨ok115, List.forall_mem_cons.2 ⟨ok121, List.forall_mem_cons.2 ⟨ok125, List.forall_mem_cons.2 ⟨ok127, (fun _ h => nomatch h)⟩⟩⟩⟩⟩⟩⟩⟩⟩⟩)
theorem lawR (pg : Pg) (G : PgOK Tryz.prog pg) (hf : pg.funcs.get 3 = some Tryz.f3) (c r : Nat) (hrun : runIs (call pg 200 (.func 3) [(.uns 0 0), (.uns 1 c), (.modv .u8 4 r)] h0) (.bool true) = true) (a b : ByteArray) (hb : VRel (ren2 a b) (.uns 1 c) (.string b)) (n : Int) (hn : 0 ≤ n) (h : n % 4 = r) (w : World) (hw : ∀ b, MaxG Tryz.prog b → IntAt w.heap b) :
    CallsIn (W none) 0 Tryz.prog 3 #[.string a, .string b, .int .u8 n] w (endR fun x w' => VRel (ren2 a b) (.bool true) x ∧ Same w w') :=
  @run_okD Tryz.prog pg G 200 3 Tryz.f3 hf hbL [(.uns 0 0), (.uns 1 c), (.modv .u8 4 r)] (.bool true) hrun 4 rfl (ren2 a b) (ren2_dom a b) #[.string a, .string b, .int .u8 n] (.cons _ _ _ _ (ren2_a a b) (.cons _ _ _ _ hb (.cons _ _ _ _ (.modv .u8 4 r n hn h) .nil))) w hw
theorem law (a b : ByteArray) (n : Int) (hn : 0 ≤ n) (w : World) (hw : ∀ b, MaxG Tryz.prog b → IntAt w.heap b) : CallsIn (W none) 0 Tryz.prog 3 #[.string a, .string b, .int .u8 n] w (endR fun x w' => VRel (ren2 a b) (.bool true) x ∧ Same w w') := by
  have h : n % 4 = (0 : Nat) ∨ n % 4 = (1 : Nat) ∨ n % 4 = (2 : Nat) ∨ n % 4 = (3 : Nat) := by omega
  by_cases e : cutS b = cutS a
  · rcases h with h | h | h | h
    · exact lawR PK4 GK4 hfL 0 0 run4 a b (ren2_c a b e) n hn h w hw
    · exact lawR PK5 GK5 hfL 0 1 run5 a b (ren2_c a b e) n hn h w hw
    · exact lawR PK6 GK6 hfL 0 2 run6 a b (ren2_c a b e) n hn h w hw
    · exact lawR PK7 GK7 hfL 0 3 run7 a b (ren2_c a b e) n hn h w hw
  · rcases h with h | h | h | h
    · exact lawR PK0 GK0 hfL 1 0 run0 a b (ren2_b a b e) n hn h w hw
    · exact lawR PK1 GK1 hfL 1 1 run1 a b (ren2_b a b e) n hn h w hw
    · exact lawR PK2 GK2 hfL 1 2 run2 a b (ren2_b a b e) n hn h w hw
    · exact lawR PK3 GK3 hfL 1 3 run3 a b (ren2_b a b e) n hn h w hw
theorem lawCalls (a b : ByteArray) (n : Int) (hn : 0 ≤ n) (w : World) (hw : ∀ b, MaxG Tryz.prog b → IntAt w.heap b) : Calls Tryz.prog 3 #[.string a, .string b, .int .u8 n] w fun e w' => e = .returned (.bool true) ∧ Same w w' := by
  have h := callsIn_wide.1 (law a b n hn w hw)
  refine Calls.mono h fun e w' k => ?_
  cases e with
  | returned x =>
    obtain ⟨k1, k2⟩ : VRel (ren2 a b) (.bool true) x ∧ Same w w' := k
    cases k1
    exact ⟨rfl, k2⟩
  | panicked => exact False.elim k
  | outgrown => exact False.elim k
end Go.Proofs.YtcbacbfjjahcbaaGreatDoor.Ev
