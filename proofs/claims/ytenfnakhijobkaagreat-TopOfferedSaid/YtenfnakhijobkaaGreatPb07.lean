/- The program's errors of markets. Conditions: the market reads as it does. All prices of a market, in lexicographic order. Conditions: the market has no fault. The program's near prices, right notes, sold chests. Conditions: the market reads as it does; prices are from 0 to 20. The iterator over all prices of a market. Conditions: the market reads as it does and has no fault. Maps of the market whose keys are two numbers: a look-up, a store. Conditions: the block holds such a map. The sure day of a cake. Conditions: the loft and the placement read as they do. A market at work: when chests can be sold, what the map says. Conditions: as stated. -/
import Derived.Test.YtenfnakhijobkaaGreatPb01
import Derived.Test.YtenfnakhijobkaaGreatPb03
import Derived.Test.YtenfnakhijobkaaGreatPb04
import Derived.Test.YtenfnakhijobkaaGreatPb06
import Derived.Laws.EntriesVeiled
set_option linter.unusedVariables false
set_option linter.unusedSimpArgs false
namespace Go.Proofs.YtenfnakhijobkaaGreat
open Go.RowKit Go.Proofs.YtenfnakhijobkaaGreatW.PrintLast
theorem lexT_nil {l : LoftD} (hl : LOk l) : lexT l = [] ↔ (truthsR l).isEmpty = true := by
  rw [List.isEmpty_iff, List.eq_nil_iff_forall_not_mem, List.eq_nil_iff_forall_not_mem]
  constructor
  · exact fun h t ht => h t ((mem_lexT hl).2 ht)
  · exact fun h t ht => h t ((mem_lexT hl).1 ht)
theorem stuck_ev (l : LoftD) : ((stuckS l l.put).2 ≠ 0 ∧ (stuckS l l.put).2 ≠ 7 ∧ ∀ m : MktD, m.loft = l → mktFault m = (stuckS l l.put).2) ∨
    (((stuckS l l.put).2 = 0 ∨ (stuckS l l.put).2 = 7) ∧ loftFault l = 0 ∧ LOk l ∧ (truthsR l).isEmpty = false) := by
  by_cases h0 : loftFault l = 0
  · have hl := LOk.of h0
    have hp : isPlace l l.put = true := hl.put
    by_cases he : lexT l = []
    · have ha : askedE l (isPlace l l.put) = 11 := by rw [askedE, if_neg (by simp [h0]), if_neg (by simp [hp]), if_pos he]
      have e1 : stuckS l l.put = (0, 11) := by rw [stuckS, ha, if_pos (by decide)]
      rw [e1]
      refine Or.inl ⟨by decide, by decide, fun m hm => ?_⟩
      rw [mktFault, hm, if_neg (by simp [h0]), if_pos ((lexT_nil hl).1 he)]
    · have h1 : askedE l (isPlace l l.put) = 0 := by rw [askedE, if_neg (by simp [h0]), if_neg (by simp [hp]), if_neg he]
      refine Or.inr ⟨?_, h0, hl, ?_⟩
      · rw [stuckS, if_neg (by simp [h1])]
        split
        · exact Or.inl rfl
        · exact Or.inr rfl
      · cases hh : (truthsR l).isEmpty
        · rfl
        · exact absurd ((lexT_nil hl).2 hh) he
  · have ha : askedE l (isPlace l l.put) = loftFault l := by rw [askedE, if_pos h0]
    have e1 : stuckS l l.put = (0, loftFault l) := by rw [stuckS, ha, if_pos h0]
    rw [e1]
    refine Or.inl ⟨h0, ?_, fun m hm => ?_⟩
    · show loftFault l ≠ 7
      unfold loftFault
      repeat' split
      all_goals decide
    · rw [mktFault, hm, if_pos h0]
def MfA (m : MktD) : Prop := ¬ (m.sales.length > 4 ∨ m.chests.length > 4 ∨ m.notes.length > 5)
section
variable {m : MktD}
theorem mf0 (hl : LOk m.loft) (ht : (truthsR m.loft).isEmpty = false) (h0 : loftFault m.loft = 0) : mktFault m = if m.sales.length > 4 ∨ m.chests.length > 4 ∨ m.notes.length > 5 then 3 else if mktArgs m = false then 1 else if capMul 3000 m.sizes > 2000 then 3 else 0 := by
  rw [mktFault, if_neg (by simp [h0]), if_neg (by simp [ht])]
end
theorem args_split (m : MktD) : mktArgs m = (inB m.step 0 20 && inB m.lots 0 4 && salesOk m.sales && chestsB m.loft.cakes.length m.chests && m.notes.all (noteOkM m)) := by
  simp only [mktArgs, chestsB, Bool.and_assoc]; rfl
set_option maxHeartbeats 8000000 in
set_option maxRecDepth 100000 in
theorem CheckMarket_any (v : MktV) (m : MktD) (w : World) (h : RdMkt w v m) :
    Calls Tryz.prog 76 #[.agg v.cs] w fun e w' => e = .returned (.int .i64 (mktFault m)) ∧ Below w.heap.size w w' := by
  obtain ⟨hn1, hn2, hn3⟩ := h.nle
  have HLs : Hid (m.sales.length = v.sales.n) := h.sales.len
  have HLc : Hid (m.chests.length = v.chests.n) := h.chests.len
  have HLn : Hid (m.notes.length = v.notes.n) := h.notes.len
  have HSTP : Hid (v.step = m.step) := h.step
  have HLOT : Hid (v.lots = m.lots) := h.lots
  have hST := fun w' (hb : Below w.heap.size w w') => Stuck_any v.loft m.loft v.loft.put m.loft.put w' (h.below hb).loft (h.below hb).loft.put
  have hev := stuck_ev m.loft
  obtain ⟨ev, hv⟩ : ∃ ev, (stuckS m.loft m.loft.put).2 = ev := ⟨_, rfl⟩
  obtain ⟨n1, hn⟩ : ∃ n1, (stuckS m.loft m.loft.put).1 = n1 := ⟨_, rfl⟩
  rw [hv, hn] at hST
  rw [hv] at hev
  have HST := Lib.hid hST
  clear hST hv hn
  obtain ⟨W0, hNW0, BX, hW0, hzW0⟩ := Box.named w v.cs 49
  have c0 := BX.cell 0 (.int .i64 v.loft.last) rfl
  have c1 := BX.cell 1 (.slice v.loft.air.a v.loft.air.n v.loft.air.c) rfl
  have c2 := BX.cell 2 (.slice v.loft.shelves.a v.loft.shelves.n v.loft.shelves.c) rfl
  have c3 := BX.cell 3 (.slice v.loft.cakes.a v.loft.cakes.n v.loft.cakes.c) rfl
  have c4 := BX.cell 4 (.slice v.loft.put.a v.loft.put.n v.loft.put.c) rfl
  have c5 := BX.cell 5 (.slice v.loft.weights.a v.loft.weights.n v.loft.weights.c) rfl
  have c6 := BX.cell 6 (.slice v.sales.a v.sales.n v.sales.c) rfl
  have c7 := BX.cell 7 (.slice v.chests.a v.chests.n v.chests.c) rfl
  have c8 := BX.cell 8 (.int .i64 v.step) rfl
  have c9 := BX.cell 9 (.int .i64 v.lots) rfl
  have c10 := BX.cell 10 (.slice v.notes.a v.notes.n v.notes.c) rfl
  rcases hev with ⟨he1, he2, he3⟩ | ⟨hev, h0, hl, ht⟩
  · have HE : Hid (mktFault m = ev) := he3 m rfl
    have hb1 : (ev != 0) = true := by simp [he1]
    have hb2 : (ev != 7) = true := by simp [he2]
    clear he1 he2 he3
    go_enter Tryz.func76, Tryz.ntmps76
    go_wp2_with (go_at_call 127; refine (HST.out _ hW0).mono ?_; rintro e w2 ⟨rfl, hb2⟩; have hw2 := below_on hW0 hb2; have BX2 := BX.lift hb2; have d0 := BX2.cell 0 (.int .i64 v.loft.last) rfl; have d1 := BX2.cell 1 (.slice v.loft.air.a v.loft.air.n v.loft.air.c) rfl; have d2 := BX2.cell 2 (.slice v.loft.shelves.a v.loft.shelves.n v.loft.shelves.c) rfl; have d3 := BX2.cell 3 (.slice v.loft.cakes.a v.loft.cakes.n v.loft.cakes.c) rfl; have d4 := BX2.cell 4 (.slice v.loft.put.a v.loft.put.n v.loft.put.c) rfl; have d5 := BX2.cell 5 (.slice v.loft.weights.a v.loft.weights.n v.loft.weights.c) rfl; have d6 := BX2.cell 6 (.slice v.sales.a v.sales.n v.sales.c) rfl; have d7 := BX2.cell 7 (.slice v.chests.a v.chests.n v.chests.c) rfl; have d8 := BX2.cell 8 (.int .i64 v.step) rfl; have d9 := BX2.cell 9 (.int .i64 v.lots) rfl; have d10 := BX2.cell 10 (.slice v.notes.a v.notes.n v.notes.c) rfl)
    go_ret
    exact ⟨ret_int HE.out.symm, hw2⟩
  have HMF := Lib.hid (mf0 hl ht h0)
  have HC5 : Hid (m.loft.cakes.length ≤ 5) := hl.cakes5
  obtain ⟨sa, hsa⟩ : ∃ sa, v.sales.a = sa := ⟨_, rfl⟩
  have HSA := Lib.hid hsa
  clear ht h0 hl hsa
  by_cases hA : v.sales.n > 4 ∨ v.chests.n > 4 ∨ v.notes.n > 5
  · have HE : Hid (mktFault m = 3) := by show _ = _; rw [HMF.out, if_pos (by rw [HLs.out, HLc.out, HLn.out]; exact hA)]
    rcases hev with rfl | rfl
    all_goals
      go_enter Tryz.func76, Tryz.ntmps76
      go_wp2_with (go_at_call 127; refine (HST.out _ hW0).mono ?_; rintro e w2 ⟨rfl, hb2⟩; have hw2 := below_on hW0 hb2; have BX2 := BX.lift hb2; have d0 := BX2.cell 0 (.int .i64 v.loft.last) rfl; have d1 := BX2.cell 1 (.slice v.loft.air.a v.loft.air.n v.loft.air.c) rfl; have d2 := BX2.cell 2 (.slice v.loft.shelves.a v.loft.shelves.n v.loft.shelves.c) rfl; have d3 := BX2.cell 3 (.slice v.loft.cakes.a v.loft.cakes.n v.loft.cakes.c) rfl; have d4 := BX2.cell 4 (.slice v.loft.put.a v.loft.put.n v.loft.put.c) rfl; have d5 := BX2.cell 5 (.slice v.loft.weights.a v.loft.weights.n v.loft.weights.c) rfl; have d6 := BX2.cell 6 (.slice v.sales.a v.sales.n v.sales.c) rfl; have d7 := BX2.cell 7 (.slice v.chests.a v.chests.n v.chests.c) rfl; have d8 := BX2.cell 8 (.int .i64 v.step) rfl; have d9 := BX2.cell 9 (.int .i64 v.lots) rfl; have d10 := BX2.cell 10 (.slice v.notes.a v.notes.n v.notes.c) rfl)
      all_goals try (go_ret; exact ⟨ret_int HE.out.symm, hw2⟩)
      all_goals (exfalso; omega)
  have HA : Hid (¬ (m.sales.length > 4 ∨ m.chests.length > 4 ∨ m.notes.length > 5)) := by show ¬ _; rw [HLs.out, HLc.out, HLn.out]; exact hA
  have hA1 : v.sales.n ≤ 4 := by omega
  have hA2 : v.chests.n ≤ 4 := by omega
  have hA3 : v.notes.n ≤ 5 := by omega
  have hd1 : decide ((4 : Int) < (v.sales.n : Int)) = false := decide_eq_false (by omega)
  have hd2 : decide ((4 : Int) < (v.chests.n : Int)) = false := decide_eq_false (by omega)
  have hd3 : decide ((5 : Int) < (v.notes.n : Int)) = false := decide_eq_false (by omega)
  clear hA
  have HAR : Hid (mktArgs m = (inB v.step 0 20 && inB v.lots 0 4 && salesOk m.sales && chestsB m.loft.cakes.length m.chests && m.notes.all (noteOkM m))) := by show _ = _; rw [args_split, HSTP.out, HLOT.out]
  cases h1 : inB v.step 0 20
  · have HE : Hid (mktFault m = 1) := by show _ = _; rw [HMF.out, if_neg HA.out, if_pos (by rw [HAR.out, h1]; rfl)]
    rcases hev with rfl | rfl
    all_goals
      go_enter Tryz.func76, Tryz.ntmps76
      go_wp2_with (first | (go_at_call 127; refine (HST.out _ hW0).mono ?_; rintro e w2 ⟨rfl, hb2⟩; have hw2 := below_on hW0 hb2; have BX2 := BX.lift hb2; have d0 := BX2.cell 0 (.int .i64 v.loft.last) rfl; have d1 := BX2.cell 1 (.slice v.loft.air.a v.loft.air.n v.loft.air.c) rfl; have d2 := BX2.cell 2 (.slice v.loft.shelves.a v.loft.shelves.n v.loft.shelves.c) rfl; have d3 := BX2.cell 3 (.slice v.loft.cakes.a v.loft.cakes.n v.loft.cakes.c) rfl; have d4 := BX2.cell 4 (.slice v.loft.put.a v.loft.put.n v.loft.put.c) rfl; have d5 := BX2.cell 5 (.slice v.loft.weights.a v.loft.weights.n v.loft.weights.c) rfl; have d6 := BX2.cell 6 (.slice v.sales.a v.sales.n v.sales.c) rfl; have d7 := BX2.cell 7 (.slice v.chests.a v.chests.n v.chests.c) rfl; have d8 := BX2.cell 8 (.int .i64 v.step) rfl; have d9 := BX2.cell 9 (.int .i64 v.lots) rfl; have d10 := BX2.cell 10 (.slice v.notes.a v.notes.n v.notes.c) rfl) | (go_at_call 129; refine (call_b (withinM_any _ _ _ _) (by assumption)).mono ?_; rintro e w' ⟨rfl, rfl⟩))
      go_ret
      exact ⟨ret_int HE.out.symm, hw2⟩
  cases h2 : inB v.lots 0 4
  · have HE : Hid (mktFault m = 1) := by show _ = _; rw [HMF.out, if_neg HA.out, if_pos (by rw [HAR.out, h1, h2]; rfl)]
    rcases hev with rfl | rfl
    all_goals
      go_enter Tryz.func76, Tryz.ntmps76
      go_wp2_with (first | (go_at_call 127; refine (HST.out _ hW0).mono ?_; rintro e w2 ⟨rfl, hb2⟩; have hw2 := below_on hW0 hb2; have BX2 := BX.lift hb2; have d0 := BX2.cell 0 (.int .i64 v.loft.last) rfl; have d1 := BX2.cell 1 (.slice v.loft.air.a v.loft.air.n v.loft.air.c) rfl; have d2 := BX2.cell 2 (.slice v.loft.shelves.a v.loft.shelves.n v.loft.shelves.c) rfl; have d3 := BX2.cell 3 (.slice v.loft.cakes.a v.loft.cakes.n v.loft.cakes.c) rfl; have d4 := BX2.cell 4 (.slice v.loft.put.a v.loft.put.n v.loft.put.c) rfl; have d5 := BX2.cell 5 (.slice v.loft.weights.a v.loft.weights.n v.loft.weights.c) rfl; have d6 := BX2.cell 6 (.slice v.sales.a v.sales.n v.sales.c) rfl; have d7 := BX2.cell 7 (.slice v.chests.a v.chests.n v.chests.c) rfl; have d8 := BX2.cell 8 (.int .i64 v.step) rfl; have d9 := BX2.cell 9 (.int .i64 v.lots) rfl; have d10 := BX2.cell 10 (.slice v.notes.a v.notes.n v.notes.c) rfl) | (go_at_call 129; refine (call_b (withinM_any _ _ _ _) (by assumption)).mono ?_; rintro e w' ⟨rfl, rfl⟩))
      go_ret
      exact ⟨ret_int HE.out.symm, hw2⟩
  cases hS : salesOk m.sales
  · have HE : Hid (mktFault m = 1) := by show _ = _; rw [HMF.out, if_neg HA.out, if_pos (by rw [HAR.out, h1, h2, hS]; rfl)]
    rcases hev with rfl | rfl
    all_goals
      go_enter Tryz.func76, Tryz.ntmps76
      go_wp2_with (first | (go_at_call 127; refine (HST.out _ hW0).mono ?_; rintro e w2 ⟨rfl, hb2⟩; have hw2 := below_on hW0 hb2; have BX2 := BX.lift hb2; have d0 := BX2.cell 0 (.int .i64 v.loft.last) rfl; have d1 := BX2.cell 1 (.slice v.loft.air.a v.loft.air.n v.loft.air.c) rfl; have d2 := BX2.cell 2 (.slice v.loft.shelves.a v.loft.shelves.n v.loft.shelves.c) rfl; have d3 := BX2.cell 3 (.slice v.loft.cakes.a v.loft.cakes.n v.loft.cakes.c) rfl; have d4 := BX2.cell 4 (.slice v.loft.put.a v.loft.put.n v.loft.put.c) rfl; have d5 := BX2.cell 5 (.slice v.loft.weights.a v.loft.weights.n v.loft.weights.c) rfl; have d6 := BX2.cell 6 (.slice v.sales.a v.sales.n v.sales.c) rfl; have d7 := BX2.cell 7 (.slice v.chests.a v.chests.n v.chests.c) rfl; have d8 := BX2.cell 8 (.int .i64 v.step) rfl; have d9 := BX2.cell 9 (.int .i64 v.lots) rfl; have d10 := BX2.cell 10 (.slice v.notes.a v.notes.n v.notes.c) rfl) | (go_at_call 129; refine (call_b (withinM_any _ _ _ _) (by assumption)).mono ?_; rintro e w' ⟨rfl, rfl⟩) | (go_at_call 130; refine (call_b (sales_any v m _ (h.below hw2)) hS).mono ?_; rintro e w3 ⟨rfl, hb3⟩; have hw3 := below_on hw2 hb3; have BX3 := BX2.lift hb3; have e0 := BX3.cell 0 (.int .i64 v.loft.last) rfl; have e1 := BX3.cell 1 (.slice v.loft.air.a v.loft.air.n v.loft.air.c) rfl; have e2 := BX3.cell 2 (.slice v.loft.shelves.a v.loft.shelves.n v.loft.shelves.c) rfl; have e3 := BX3.cell 3 (.slice v.loft.cakes.a v.loft.cakes.n v.loft.cakes.c) rfl; have e4 := BX3.cell 4 (.slice v.loft.put.a v.loft.put.n v.loft.put.c) rfl; have e5 := BX3.cell 5 (.slice v.loft.weights.a v.loft.weights.n v.loft.weights.c) rfl; have e6 := BX3.cell 6 (.slice v.sales.a v.sales.n v.sales.c) rfl; have e7 := BX3.cell 7 (.slice v.chests.a v.chests.n v.chests.c) rfl; have e8 := BX3.cell 8 (.int .i64 v.step) rfl; have e9 := BX3.cell 9 (.int .i64 v.lots) rfl; have e10 := BX3.cell 10 (.slice v.notes.a v.notes.n v.notes.c) rfl))
      go_ret
      exact ⟨ret_int HE.out.symm, hw3⟩
  cases hC : chestsB m.loft.cakes.length m.chests
  · have HE : Hid (mktFault m = 1) := by show _ = _; rw [HMF.out, if_neg HA.out, if_pos (by rw [HAR.out, h1, h2, hS, hC]; rfl)]
    rcases hev with rfl | rfl
    all_goals
      go_enter Tryz.func76, Tryz.ntmps76
      go_wp2_with (first | (go_at_call 127; refine (HST.out _ hW0).mono ?_; rintro e w2 ⟨rfl, hb2⟩; have hw2 := below_on hW0 hb2; have BX2 := BX.lift hb2; have d0 := BX2.cell 0 (.int .i64 v.loft.last) rfl; have d1 := BX2.cell 1 (.slice v.loft.air.a v.loft.air.n v.loft.air.c) rfl; have d2 := BX2.cell 2 (.slice v.loft.shelves.a v.loft.shelves.n v.loft.shelves.c) rfl; have d3 := BX2.cell 3 (.slice v.loft.cakes.a v.loft.cakes.n v.loft.cakes.c) rfl; have d4 := BX2.cell 4 (.slice v.loft.put.a v.loft.put.n v.loft.put.c) rfl; have d5 := BX2.cell 5 (.slice v.loft.weights.a v.loft.weights.n v.loft.weights.c) rfl; have d6 := BX2.cell 6 (.slice v.sales.a v.sales.n v.sales.c) rfl; have d7 := BX2.cell 7 (.slice v.chests.a v.chests.n v.chests.c) rfl; have d8 := BX2.cell 8 (.int .i64 v.step) rfl; have d9 := BX2.cell 9 (.int .i64 v.lots) rfl; have d10 := BX2.cell 10 (.slice v.notes.a v.notes.n v.notes.c) rfl) | (go_at_call 129; refine (call_b (withinM_any _ _ _ _) (by assumption)).mono ?_; rintro e w' ⟨rfl, rfl⟩) | (go_at_call 130; refine (call_b (sales_any v m _ (h.below hw2)) hS).mono ?_; rintro e w3 ⟨rfl, hb3⟩; have hw3 := below_on hw2 hb3; have BX3 := BX2.lift hb3; have e0 := BX3.cell 0 (.int .i64 v.loft.last) rfl; have e1 := BX3.cell 1 (.slice v.loft.air.a v.loft.air.n v.loft.air.c) rfl; have e2 := BX3.cell 2 (.slice v.loft.shelves.a v.loft.shelves.n v.loft.shelves.c) rfl; have e3 := BX3.cell 3 (.slice v.loft.cakes.a v.loft.cakes.n v.loft.cakes.c) rfl; have e4 := BX3.cell 4 (.slice v.loft.put.a v.loft.put.n v.loft.put.c) rfl; have e5 := BX3.cell 5 (.slice v.loft.weights.a v.loft.weights.n v.loft.weights.c) rfl; have e6 := BX3.cell 6 (.slice v.sales.a v.sales.n v.sales.c) rfl; have e7 := BX3.cell 7 (.slice v.chests.a v.chests.n v.chests.c) rfl; have e8 := BX3.cell 8 (.int .i64 v.step) rfl; have e9 := BX3.cell 9 (.int .i64 v.lots) rfl; have e10 := BX3.cell 10 (.slice v.notes.a v.notes.n v.notes.c) rfl) | (go_at_call 131; refine (call_b (chests_any v m _ (h.below hw3) HC5.out) hC).mono ?_; rintro e w4 ⟨rfl, hb4⟩; have hw4 := below_on hw3 hb4; have BX4 := BX3.lift hb4; have f0 := BX4.cell 0 (.int .i64 v.loft.last) rfl; have f1 := BX4.cell 1 (.slice v.loft.air.a v.loft.air.n v.loft.air.c) rfl; have f2 := BX4.cell 2 (.slice v.loft.shelves.a v.loft.shelves.n v.loft.shelves.c) rfl; have f3 := BX4.cell 3 (.slice v.loft.cakes.a v.loft.cakes.n v.loft.cakes.c) rfl; have f4 := BX4.cell 4 (.slice v.loft.put.a v.loft.put.n v.loft.put.c) rfl; have f5 := BX4.cell 5 (.slice v.loft.weights.a v.loft.weights.n v.loft.weights.c) rfl; have f6 := BX4.cell 6 (.slice v.sales.a v.sales.n v.sales.c) rfl; have f7 := BX4.cell 7 (.slice v.chests.a v.chests.n v.chests.c) rfl; have f8 := BX4.cell 8 (.int .i64 v.step) rfl; have f9 := BX4.cell 9 (.int .i64 v.lots) rfl; have f10 := BX4.cell 10 (.slice v.notes.a v.notes.n v.notes.c) rfl))
      go_ret
      exact ⟨ret_int HE.out.symm, hw4⟩
  cases hN : m.notes.all (noteOkM m)
  · have HE : Hid (mktFault m = 1) := by show _ = _; rw [HMF.out, if_neg HA.out, if_pos (by rw [HAR.out, h1, h2, hS, hC, hN]; rfl)]
    rcases hev with rfl | rfl
    all_goals
      go_enter Tryz.func76, Tryz.ntmps76
      go_wp2_with (first | (go_at_call 127; refine (HST.out _ hW0).mono ?_; rintro e w2 ⟨rfl, hb2⟩; have hw2 := below_on hW0 hb2; have BX2 := BX.lift hb2; have d0 := BX2.cell 0 (.int .i64 v.loft.last) rfl; have d1 := BX2.cell 1 (.slice v.loft.air.a v.loft.air.n v.loft.air.c) rfl; have d2 := BX2.cell 2 (.slice v.loft.shelves.a v.loft.shelves.n v.loft.shelves.c) rfl; have d3 := BX2.cell 3 (.slice v.loft.cakes.a v.loft.cakes.n v.loft.cakes.c) rfl; have d4 := BX2.cell 4 (.slice v.loft.put.a v.loft.put.n v.loft.put.c) rfl; have d5 := BX2.cell 5 (.slice v.loft.weights.a v.loft.weights.n v.loft.weights.c) rfl; have d6 := BX2.cell 6 (.slice v.sales.a v.sales.n v.sales.c) rfl; have d7 := BX2.cell 7 (.slice v.chests.a v.chests.n v.chests.c) rfl; have d8 := BX2.cell 8 (.int .i64 v.step) rfl; have d9 := BX2.cell 9 (.int .i64 v.lots) rfl; have d10 := BX2.cell 10 (.slice v.notes.a v.notes.n v.notes.c) rfl) | (go_at_call 129; refine (call_b (withinM_any _ _ _ _) (by assumption)).mono ?_; rintro e w' ⟨rfl, rfl⟩) | (go_at_call 130; refine (call_b (sales_any v m _ (h.below hw2)) hS).mono ?_; rintro e w3 ⟨rfl, hb3⟩; have hw3 := below_on hw2 hb3; have BX3 := BX2.lift hb3; have e0 := BX3.cell 0 (.int .i64 v.loft.last) rfl; have e1 := BX3.cell 1 (.slice v.loft.air.a v.loft.air.n v.loft.air.c) rfl; have e2 := BX3.cell 2 (.slice v.loft.shelves.a v.loft.shelves.n v.loft.shelves.c) rfl; have e3 := BX3.cell 3 (.slice v.loft.cakes.a v.loft.cakes.n v.loft.cakes.c) rfl; have e4 := BX3.cell 4 (.slice v.loft.put.a v.loft.put.n v.loft.put.c) rfl; have e5 := BX3.cell 5 (.slice v.loft.weights.a v.loft.weights.n v.loft.weights.c) rfl; have e6 := BX3.cell 6 (.slice v.sales.a v.sales.n v.sales.c) rfl; have e7 := BX3.cell 7 (.slice v.chests.a v.chests.n v.chests.c) rfl; have e8 := BX3.cell 8 (.int .i64 v.step) rfl; have e9 := BX3.cell 9 (.int .i64 v.lots) rfl; have e10 := BX3.cell 10 (.slice v.notes.a v.notes.n v.notes.c) rfl) | (go_at_call 131; refine (call_b (chests_any v m _ (h.below hw3) HC5.out) hC).mono ?_; rintro e w4 ⟨rfl, hb4⟩; have hw4 := below_on hw3 hb4; have BX4 := BX3.lift hb4; have f0 := BX4.cell 0 (.int .i64 v.loft.last) rfl; have f1 := BX4.cell 1 (.slice v.loft.air.a v.loft.air.n v.loft.air.c) rfl; have f2 := BX4.cell 2 (.slice v.loft.shelves.a v.loft.shelves.n v.loft.shelves.c) rfl; have f3 := BX4.cell 3 (.slice v.loft.cakes.a v.loft.cakes.n v.loft.cakes.c) rfl; have f4 := BX4.cell 4 (.slice v.loft.put.a v.loft.put.n v.loft.put.c) rfl; have f5 := BX4.cell 5 (.slice v.loft.weights.a v.loft.weights.n v.loft.weights.c) rfl; have f6 := BX4.cell 6 (.slice v.sales.a v.sales.n v.sales.c) rfl; have f7 := BX4.cell 7 (.slice v.chests.a v.chests.n v.chests.c) rfl; have f8 := BX4.cell 8 (.int .i64 v.step) rfl; have f9 := BX4.cell 9 (.int .i64 v.lots) rfl; have f10 := BX4.cell 10 (.slice v.notes.a v.notes.n v.notes.c) rfl) | (go_at_call 132; refine (call_b (all_note_all v m v.notes m.notes _ ((h.below hw4).notes) (h.below hw4)) hN).mono ?_; rintro e w5 ⟨rfl, hb5⟩; have hw5 := below_on hw4 hb5; have BX5 := BX4.lift hb5; have g6 := BX5.cell 6 (.slice v.sales.a v.sales.n v.sales.c) rfl; rw [HSA.out] at g6))
      go_ret
      exact ⟨ret_int HE.out.symm, hw5⟩
  have HE : Hid (mktFault m = if capMul 3000 m.sizes > 2000 then 3 else 0) := by show _ = _; rw [HMF.out, if_neg HA.out, if_neg (by rw [HAR.out, h1, h2, hS, hC, hN]; decide)]
  have HPR := Lib.hid (salesOk_prices hS)
  rcases hev with rfl | rfl
  all_goals
    go_enter Tryz.func76, Tryz.ntmps76
    go_wp2_with (first | (go_at_call 127; refine (HST.out _ hW0).mono ?_; rintro e w2 ⟨rfl, hb2⟩; have hw2 := below_on hW0 hb2; have BX2 := BX.lift hb2; have d0 := BX2.cell 0 (.int .i64 v.loft.last) rfl; have d1 := BX2.cell 1 (.slice v.loft.air.a v.loft.air.n v.loft.air.c) rfl; have d2 := BX2.cell 2 (.slice v.loft.shelves.a v.loft.shelves.n v.loft.shelves.c) rfl; have d3 := BX2.cell 3 (.slice v.loft.cakes.a v.loft.cakes.n v.loft.cakes.c) rfl; have d4 := BX2.cell 4 (.slice v.loft.put.a v.loft.put.n v.loft.put.c) rfl; have d5 := BX2.cell 5 (.slice v.loft.weights.a v.loft.weights.n v.loft.weights.c) rfl; have d6 := BX2.cell 6 (.slice v.sales.a v.sales.n v.sales.c) rfl; have d7 := BX2.cell 7 (.slice v.chests.a v.chests.n v.chests.c) rfl; have d8 := BX2.cell 8 (.int .i64 v.step) rfl; have d9 := BX2.cell 9 (.int .i64 v.lots) rfl; have d10 := BX2.cell 10 (.slice v.notes.a v.notes.n v.notes.c) rfl) | (go_at_call 129; refine (call_b (withinM_any _ _ _ _) (by assumption)).mono ?_; rintro e w' ⟨rfl, rfl⟩) | (go_at_call 130; refine (call_b (sales_any v m _ (h.below hw2)) hS).mono ?_; rintro e w3 ⟨rfl, hb3⟩; have hw3 := below_on hw2 hb3; have BX3 := BX2.lift hb3; have e0 := BX3.cell 0 (.int .i64 v.loft.last) rfl; have e1 := BX3.cell 1 (.slice v.loft.air.a v.loft.air.n v.loft.air.c) rfl; have e2 := BX3.cell 2 (.slice v.loft.shelves.a v.loft.shelves.n v.loft.shelves.c) rfl; have e3 := BX3.cell 3 (.slice v.loft.cakes.a v.loft.cakes.n v.loft.cakes.c) rfl; have e4 := BX3.cell 4 (.slice v.loft.put.a v.loft.put.n v.loft.put.c) rfl; have e5 := BX3.cell 5 (.slice v.loft.weights.a v.loft.weights.n v.loft.weights.c) rfl; have e6 := BX3.cell 6 (.slice v.sales.a v.sales.n v.sales.c) rfl; have e7 := BX3.cell 7 (.slice v.chests.a v.chests.n v.chests.c) rfl; have e8 := BX3.cell 8 (.int .i64 v.step) rfl; have e9 := BX3.cell 9 (.int .i64 v.lots) rfl; have e10 := BX3.cell 10 (.slice v.notes.a v.notes.n v.notes.c) rfl) | (go_at_call 131; refine (call_b (chests_any v m _ (h.below hw3) HC5.out) hC).mono ?_; rintro e w4 ⟨rfl, hb4⟩; have hw4 := below_on hw3 hb4; have BX4 := BX3.lift hb4; have f0 := BX4.cell 0 (.int .i64 v.loft.last) rfl; have f1 := BX4.cell 1 (.slice v.loft.air.a v.loft.air.n v.loft.air.c) rfl; have f2 := BX4.cell 2 (.slice v.loft.shelves.a v.loft.shelves.n v.loft.shelves.c) rfl; have f3 := BX4.cell 3 (.slice v.loft.cakes.a v.loft.cakes.n v.loft.cakes.c) rfl; have f4 := BX4.cell 4 (.slice v.loft.put.a v.loft.put.n v.loft.put.c) rfl; have f5 := BX4.cell 5 (.slice v.loft.weights.a v.loft.weights.n v.loft.weights.c) rfl; have f6 := BX4.cell 6 (.slice v.sales.a v.sales.n v.sales.c) rfl; have f7 := BX4.cell 7 (.slice v.chests.a v.chests.n v.chests.c) rfl; have f8 := BX4.cell 8 (.int .i64 v.step) rfl; have f9 := BX4.cell 9 (.int .i64 v.lots) rfl; have f10 := BX4.cell 10 (.slice v.notes.a v.notes.n v.notes.c) rfl) | (go_at_call 132; refine (call_b (all_note_all v m v.notes m.notes _ ((h.below hw4).notes) (h.below hw4)) hN).mono ?_; rintro e w5 ⟨rfl, hb5⟩; have hw5 := below_on hw4 hb5; have BX5 := BX4.lift hb5; have g6 := BX5.cell 6 (.slice v.sales.a v.sales.n v.sales.c) rfl; rw [HSA.out] at g6))
    clear d0 d1 d2 d3 d4 d5 d6 d7 d8 d9 d10 e0 e1 e2 e3 e4 e5 e6 e7 e8 e9 e10 f0 f1 f2 f3 f4 f5 f6 f7 f8 f9 f10 g6 h1 h2 hS hC hN c0 c1 c2 c3 c4 c5 c6 c7 c8 c9 c10
    go_loopw [6, 75] (fun r i wr => ∃ (k : Nat) (z : Int), k ≤ v.sales.n ∧ i = .int .i64 k ∧ r = .int .i64 z ∧ 1 ≤ z ∧ z ≤ 2001 ∧ Hid (z = ((m.sales.take k).map (fun s => s.price.size)).foldl minStep 1) ∧ Below w5.heap.size w5 wr) (fun _ i _ => v.sales.n - (intOf i).toNat)
    case atStart => exact ⟨0, 1, Nat.zero_le _, rfl, rfl, by omega, by omega, by simp [Hid], Below.refl _ _⟩
    case round =>
      obtain ⟨k, z, hk, rfl, rfl, hz1, hz2, hq, hb⟩ := hrel
      have hw := below_on hw5 hb
      by_cases hlt : k < v.sales.n
      · obtain ⟨x, hx⟩ := at_of_lt HLs.out hlt
        obtain ⟨b, o, ha0, hbl, hc0, hc1, hc2⟩ := h.sales.sale_at hx
        have ha := HSA.out.symm.trans ha0
        clear ha0
        have hc0 := lift hw hc0
        have hc1 := lift hw hc1
        have hc2 := lift hw hc2
        have HX := Lib.hid hx
        subst ha
        clear hx
        have hok := HPR.out x (List.mem_of_getElem? HX.out)
        have hsz := hok.size_pos
        unfold PrOk at hok
        have hm := mul_bounds ⟨hz1, by omega⟩ ⟨hsz.1, by omega⟩
        unfold Rg.size at hsz hm
        obtain ⟨W6, hNW6, BX6, hW6, hzW6⟩ := Box.named wr #[.int .i64 x.day, .int .i64 x.price.lo, .int .i64 x.price.hi] 149
        have e0 := BX6.cell 0 (.int .i64 x.day) rfl
        have e1 := BX6.cell 1 (.int .i64 x.price.lo) rfl
        have e2 := BX6.cell 2 (.int .i64 x.price.hi) rfl
        go_wp2_with (first | (go_at_call 134; refine (sizeM_any _ _ _ (by omega) (by omega) (by omega)).mono ?_; rintro e w9 ⟨rfl, hb9⟩) | (go_at_call 133; refine (minimumM_any w9.heap.size 0 2 _ _ _ ((Box.new w9 _ 3).cell 0 _ rfl) ((Box.new w9 _ 3).cell 1 _ rfl)).mono ?_; rintro e w10 ⟨rfl, rfl⟩))
        go_roundw
        case measure => simp [intOf]; omega
        case rel =>
          refine ⟨k + 1, minStep z x.price.size, by omega, by go_num, rfl, ?_, ?_, ?_, ?_⟩
          · unfold minStep Rg.size; omega
          · unfold minStep Rg.size; omega
          · have hq' : z = _ := hq
            show minStep z x.price.size = _
            rw [List.map_take, take_foldl _ _ (x := x.price.size) (by simp [HX.out]), hq', List.map_take]
          · exact below_on (below_on (below_on hb hW6) hb9) (below_box _ _)
      · obtain rfl : k = v.sales.n := by omega
        have HQ : Hid (z = min (capMul 3000 m.sizes) 2001) := by
          have h1 : z = _ := hq
          rw [take_len HLs.out] at h1
          show z = _
          rw [h1]
          refine minFold_cap _ 1 1 (by omega) (by omega) (by omega) fun s hs => ?_
          obtain ⟨r, hr, rfl⟩ := List.mem_map.1 hs
          exact (HPR.out r hr).size_pos.1
        clear hq
        go_wp2
        · go_ret
          exact ⟨ret_int (by rw [HE.out, if_pos (by have := HQ.out; omega)]), hw⟩
        · go_ret
          exact ⟨ret_int (by rw [HE.out, if_neg (by have := HQ.out; omega)]), hw⟩
end Go.Proofs.YtenfnakhijobkaaGreat
namespace Go.Proofs.YtenfnakhijobkaaGreat

def nearO (step : Int) : Option Int → Int → Bool
  | none, _ => true
  | some a, b => near step a b
def nearAll (step : Int) : Option Int → List Int → Bool
  | _, [] => true
  | p, x :: xs => nearO step p x && nearAll step (some x) xs
def enumP (step : Int) : Option Int → List Rg → List (List Int)
  | _, [] => [[]]
  | p, r :: rs => r.nums.flatMap fun x => if nearO step p x then (enumP step (some x) rs).map (x :: ·) else []
theorem mem_enumP {step : Int} : ∀ {rs : List Rg} {p : Option Int} {xs : List Int}, xs ∈ enumP step p rs ↔ FitsL rs xs ∧ nearAll step p xs = true
  | [], p, xs => by
    simp only [enumP, FitsL, List.mem_singleton]
    constructor
    · rintro rfl; exact ⟨rfl, rfl⟩
    · exact fun h => h.1
  | r :: rs, p, xs => by
    simp only [enumP, FitsL, List.mem_flatMap]
    constructor
    · rintro ⟨x, hx, hxs⟩
      have h1 := mem_nums.1 hx
      split at hxs
      · rename_i hn
        obtain ⟨ys, hy, rfl⟩ := List.mem_map.1 hxs
        have h2 := mem_enumP.1 hy
        exact ⟨⟨x, ys, rfl, h1.1, h1.2, h2.1⟩, by simp [nearAll, hn, h2.2]⟩
      · cases hxs
    · rintro ⟨⟨x, ys, rfl, h1, h2, h3⟩, hn⟩
      simp only [nearAll, Bool.and_eq_true] at hn
      exact ⟨x, mem_nums.2 ⟨h1, h2⟩, by rw [if_pos hn.1]; exact List.mem_map.2 ⟨ys, mem_enumP.2 ⟨h3, hn.2⟩, rfl⟩⟩
theorem nodup_flat2 {xs : List Int} {f : Int → List (List Int)} (hx : xs.Nodup) (hy : ∀ x, (f x).Nodup) (hh : ∀ x l, l ∈ f x → l.head? = some x) : (xs.flatMap f).Nodup := by
  induction xs with
  | nil => simp
  | cons x xs ih =>
    rw [List.nodup_cons] at hx
    rw [List.flatMap_cons, List.nodup_append]
    refine ⟨hy x, ih hx.2, ?_⟩
    intro a ha b hb e
    obtain ⟨x', hx', hb'⟩ := List.mem_flatMap.1 hb
    have h1 := hh x a ha
    have h2 := hh x' b hb'
    rw [e, h2] at h1
    cases h1
    exact hx.1 hx'
theorem enumP_nodup (step : Int) : ∀ (p : Option Int) (rs : List Rg), (enumP step p rs).Nodup
  | p, [] => by simp [enumP]
  | p, r :: rs => by
    unfold enumP
    refine nodup_flat2 (nums_nodup r) (fun x => ?_) (fun x l hl => ?_)
    · split
      · unfold List.Nodup
        rw [List.pairwise_map]
        exact List.Pairwise.imp (fun h e => h (by simpa using e)) (enumP_nodup step (some x) rs)
      · simp
    · split at hl
      · obtain ⟨c, _, rfl⟩ := List.mem_map.1 hl
        rfl
      · cases hl
def MktD.prs (m : MktD) : List Rg := m.sales.map (·.price)
theorem nearAll_at {step : Int} : ∀ {xs : List Int} {p : Option Int}, nearAll step p xs = true ↔ ∀ i, i < xs.length → nearO step (if i = 0 then p else xs[i - 1]?) (xs.getD i 0) = true
  | [], p => by simp [nearAll]
  | x :: xs, p => by
    simp only [nearAll, Bool.and_eq_true, nearAll_at (xs := xs)]
    constructor
    · rintro ⟨h1, h2⟩ i hi
      cases i with
      | zero => simpa using h1
      | succ i =>
        have := h2 i (by simpa using hi)
        cases i with
        | zero => simpa using this
        | succ i => simpa using this
    · intro h
      refine ⟨by simpa using h 0 (by simp), fun i hi => ?_⟩
      have := h (i + 1) (by simpa using hi)
      cases i with
      | zero => simpa using this
      | succ i => simpa using this
theorem arePrices_iff {m : MktD} {l : List Int} : arePrices m l = true ↔ FitsL m.prs l ∧ nearAll m.step none l = true := by
  simp only [arePrices, Bool.and_eq_true, decide_eq_true_eq, List.all_eq_true, List.mem_range, priceAt, Bool.or_eq_true]
  have hlen : m.prs.length = m.sales.length := by simp [MktD.prs]
  constructor
  · rintro ⟨h1, h2⟩
    refine ⟨fitsL_of (by omega) (fun i r x hr hx => ?_), nearAll_at.2 (fun i hi => ?_)⟩
    · have h3 := (h2 i (List.getElem?_eq_some_iff.1 hx).1).1
      simp only [Rg.has, inB_iff, MktD.priceOf] at h3
      simp only [MktD.prs, List.getElem?_map] at hr
      rw [hr, List.getD_eq_getElem?_getD, hx] at h3
      simpa using h3
    · have h3 := (h2 i hi).2
      cases i with
      | zero => simp [nearO]
      | succ i =>
        have hi' : i < l.length := by omega
        simp at h3
        simpa [nearO, hi', List.getD_eq_getElem?_getD] using h3
  · rintro ⟨h1, h2⟩
    have h3 := nearAll_at.1 h2
    have hl := h1.len
    refine ⟨by omega, fun i hi => ⟨?_, ?_⟩⟩
    · have hr : m.prs[i]? = some (m.prs[i]'(by omega)) := List.getElem?_eq_getElem (by omega)
      obtain ⟨x, hx, a, b⟩ := h1.at hr
      simp only [MktD.prs, List.getElem?_map] at hr
      simp only [Rg.has, inB_iff, MktD.priceOf, hr, List.getD_eq_getElem?_getD, hx]
      simpa [MktD.prs] using And.intro a b
    · have h4 := h3 i hi
      cases i with
      | zero => exact Or.inl rfl
      | succ i =>
        have hi' : i < l.length := by omega
        simp [nearO, hi', List.getD_eq_getElem?_getD] at h4
        exact Or.inr (by simpa [hi', List.getD_eq_getElem?_getD] using h4)
theorem nthP_eq (m : MktD) (n : Nat) : nthP m n = nthL m.prs n := by simp [nthP, MktD.prs, nthF_eq]
theorem MOk.prsOk {m : MktD} (hm : MOk m) : ∀ r ∈ m.prs, 0 ≤ r.lo ∧ r.lo ≤ r.hi ∧ r.hi ≤ 20 := by
  intro r hr
  obtain ⟨s, hs, rfl⟩ := List.mem_map.1 hr
  exact hm.prices s hs
def lexM (m : MktD) : List (List Int) := (enumP m.step none m.prs).filter fun l => m.notes.all (nRight l)
theorem mem_lexM {m : MktD} {l : List Int} : l ∈ lexM m ↔ isTruth m l = true := by
  simp only [lexM, List.mem_filter, mem_enumP, isTruth, Bool.and_eq_true, arePrices_iff]
theorem mem_nthP {m : MktD} (hm : MOk m) {l : List Int} (h : FitsL m.prs l) : ∃ n : Nat, n < (capMul 3000 m.sizes).toNat ∧ nthP m n = l := by
  have hp : ∀ s ∈ m.sizes, 1 ≤ s := fun s hs => by
    obtain ⟨x, hx, rfl⟩ := List.mem_map.1 hs
    exact (hm.prices x hx).size_pos.1
  have hc := capMul_prod hp hm.many
  obtain ⟨n, hn, hx⟩ := fits_nth (fun r hr => (hm.prsOk r hr).2.1) h
  refine ⟨n, ?_, by rw [nthP_eq, hx]⟩
  rw [hc, show m.sizes = m.prs.map Rg.size from by simp [MktD.sizes, MktD.prs]]
  omega
theorem mem_pricesR {m : MktD} (hm : MOk m) {l : List Int} : l ∈ pricesR m ↔ isTruth m l = true := by
  simp only [pricesR, psR, List.mem_filter, List.mem_map, List.mem_range]
  constructor
  · exact fun h => h.2
  · intro h
    have h1 := h
    simp only [isTruth, Bool.and_eq_true, arePrices_iff] at h1
    obtain ⟨n, hn, hx⟩ := mem_nthP hm h1.1.1
    exact ⟨⟨n, hn, hx⟩, h⟩
theorem lexM_iff {m : MktD} (hm : MOk m) {l : List Int} : l ∈ lexM m ↔ l ∈ pricesR m := by rw [mem_lexM, mem_pricesR hm]
end Go.Proofs.YtenfnakhijobkaaGreat
namespace Go.Proofs.YtenfnakhijobkaaGreat
open Go.RowKit Go.Proofs.YtenfnakhijobkaaGreatW.PrintLast
/-- An array of four numbers. -/
abbrev prC (f : Nat → Int) : Array Value := #[.int .i64 (f 0), .int .i64 (f 1), .int .i64 (f 2), .int .i64 (f 3)]
theorem lt4 {i : Nat} (h : i < 4) : i = 0 ∨ i = 1 ∨ i = 2 ∨ i = 3 := by omega
theorem prC_at (f : Nat → Int) {i : Nat} (h : i < 4) : (prC f)[i]? = some (.int .i64 (f i)) := by
  rcases lt4 h with rfl | rfl | rfl | rfl <;> rfl
theorem prC_set (f : Nat → Int) {i : Nat} (h : i < 4) (x : Int) : (prC f).setIfInBounds i (.int .i64 x) = prC (putF f i x) := by
  rcases lt4 h with rfl | rfl | rfl | rfl <;> simp [prC, putF]
abbrev arrP (x : List Int) : Array Value := prC (fun j => x.getD j 0)
def nearF (step : Int) (f : Nat → Int) (i : Nat) : Bool := decide (i = 0) || near step (f (i - 1)) (f i)
set_option maxHeartbeats 1000000 in
theorem near_any (v : MktV) (f : Nat → Int) (i : Nat) (hi : i < 4) (hs : 0 ≤ v.step ∧ v.step ≤ 20) (hf : ∀ j, j ≤ i → 0 ≤ f j ∧ f j ≤ 20) (w : World) :
    Calls Tryz.prog 156 #[.agg v.cs, .agg (prC f), .int .i64 i] w fun e w' => e = .returned (.bool (nearF v.step f i)) ∧ Below w.heap.size w w' := by
  obtain ⟨W0, hNW0, BX, hW0, hzW0⟩ := Box.named w v.cs 49
  obtain ⟨W1, hNW1, BX1, hW1, hzW1⟩ := Box.named W0 (prC f) 167
  have hw1 := below_on hW0 hW1
  obtain ⟨st, hst⟩ : ∃ st, v.step = st := ⟨_, rfl⟩
  have c8 := (BX.lift hW1).cell 8 (.int .i64 v.step) rfl
  rw [hst] at c8 hs ⊢
  have HST := Lib.hid hst
  have hfi := hf i (Nat.le_refl _)
  by_cases h0 : i = 0
  · subst h0
    clear hst hf
    go_enter Tryz.func156, Tryz.ntmps156
    go_wp2
    have zz0 := fun x : After W1 => At.cell c8 x
    refine wp_region_after (by kernel_rfl) (by kernel_rfl) ?_
    repeat (go_big_quiet_step ((fail)))
    refine wpQuiet_nil ?_
    intro W2 hbW2
    clear zz0
    go_wp2
    go_ret
    exact ⟨ret_bool (by simp [nearF]), below_on hw1 hbW2⟩
  · have hfj := hf (i - 1) (by omega)
    obtain ⟨j, rfl⟩ : ∃ j, i = j + 1 := ⟨i - 1, by omega⟩
    have e0 := BX1.cell j _ (prC_at f (by omega))
    have e1 := BX1.cell (j + 1) _ (prC_at f hi)
    simp only [Nat.add_sub_cancel] at hfj
    obtain ⟨x, hx⟩ : ∃ x, f j = x := ⟨_, rfl⟩
    obtain ⟨y, hy⟩ : ∃ y, f (j + 1) = y := ⟨_, rfl⟩
    have HN : Hid (nearF st f (j + 1) = inB (y - x) (-st) st) := by show _ = _; rw [nearF]; simp [near, hx, hy]
    rw [hx] at e0 hfj
    rw [hy] at e1 hfi
    have hb : ((j : Int) + 1 == 0) = false := by simp; omega
    have hj1 : (0 : Int) ≤ (j : Int) + 1 := by omega
    have hj2 : (j : Int) + 1 < 4 := by omega
    have hj3 : (0 : Int) ≤ (j : Int) := by omega
    have hj4 : (j : Int) < 4 := by omega
    clear hst hf hx hy h0
    go_enter Tryz.func156, Tryz.ntmps156
    go_wp2
    have hw1 : IntKind.i64.wrap (y - x) = y - x := IntWalk.i64_in _ (by omega)
    have hw2 : IntKind.i64.wrap (-st) = -st := IntWalk.i64_in _ (by omega)
    have hw3 : IntKind.i64.wrap ((j : Int) + 1 - 1) = (j : Int) := by rw [IntWalk.i64_in _ (by omega)]; omega
    have zz0 := fun x : After W1 => At.cell c8 x
    have zz1 := fun x : After W1 => At.cell e0 x
    have zz2 := fun x : After W1 => At.cell e1 x
    refine wp_region_after (by kernel_rfl) (by kernel_rfl) ?_
    repeat (go_big_quiet_step ((go_at_call 129; exact after_same (withinM_any _ _ _ _))))
    refine wpQuiet_nil ?_
    intro W2 hbW2
    clear zz0 zz1 zz2
    go_wp2
    go_ret
    exact ⟨ret_bool HN.out.symm, below_on (below_on hW0 hW1) hbW2⟩
def noteF (m : MktD) (out : List Int) (f : Nat → Int) (i : Nat) : Bool := out.any (· == (i : Int)) || (match m.notes[i]? with
  | some x => x.price.has (f x.sale.toNat)
  | none => true)
def rightF (m : MktD) (out : List Int) (f : Nat → Int) : Bool := (List.range m.notes.length).all (noteF m out f)
set_option maxHeartbeats 4000000 in
set_option maxRecDepth 100000 in
theorem rightM_any (v : MktV) (m : MktD) (f : Nat → Int) (so : Sl) (out : List Int) (w : World) (h : RdMkt w v m) (ho : RdInts w so out) (hn : ∀ x ∈ m.notes, 0 ≤ x.sale ∧ x.sale < 4) :
    Calls Tryz.prog 126 #[.agg v.cs, .agg (prC f), .slice so.a so.n so.c] w fun e w' => e = .returned (.bool (rightF m out f)) ∧ Below w.heap.size w w' := by
  have HL : Hid (m.notes.length = v.notes.n) := h.notes.len
  have hnn := h.nle.2.2
  have HE : Hid (rightF m out f = (List.range v.notes.n).all (noteF m out f)) := by show _ = _; rw [← HL.out]; rfl
  have HNO := Lib.hid hn
  obtain ⟨na, hna⟩ : ∃ na, v.notes.a = na := ⟨_, rfl⟩
  obtain ⟨W0, hNW0, BX, hW0, hzW0⟩ := Box.named w v.cs 49
  obtain ⟨W1, hNW1, BX1, hW1, hzW1⟩ := Box.named W0 (prC f) 167
  have hw1 := below_on hW0 hW1
  have c10 := (BX.lift hW1).cell 10 (.slice v.notes.a v.notes.n v.notes.c) rfl
  rw [hna] at c10
  have HNA := Lib.hid hna
  clear hna hn
  go_enter Tryz.func126, Tryz.ntmps126
  go_wp2
  clear hNW0 hNW1 c10
  go_loopw [12] (fun i wr => ∃ k : Nat, k ≤ v.notes.n ∧ i = .int .i64 k ∧ Hid ((List.range k).all (noteF m out f) = true) ∧ Below W1.heap.size W1 wr) (fun i _ => v.notes.n - (intOf i).toNat)
  case atStart => exact ⟨0, Nat.zero_le _, rfl, by simp [Hid], Below.refl _ _⟩
  case round =>
    obtain ⟨k, hk, rfl, hq, hb⟩ := hrel
    have hw := below_on hw1 hb
    by_cases hlt : k < v.notes.n
    · obtain ⟨x, hx⟩ := at_of_lt HL.out hlt
      obtain ⟨b, o, ha0, hbl, hc0, hc1, hc2⟩ := h.notes.note_at hx
      have ha := HNA.out.symm.trans ha0
      clear ha0
      subst ha
      have hxs := HNO.out x (List.mem_of_getElem? hx)
      obtain ⟨s, hs⟩ := Int.eq_ofNat_of_zero_le hxs.1
      have hs4 : s < 4 := by omega
      rw [hs] at hc0
      have hc0 := lift hw hc0
      have hc1 := lift hw hc1
      have hc2 := lift hw hc2
      have HF : Hid (noteF m out f k = (out.any (· == (k : Int)) || inB (f s) x.price.lo x.price.hi)) := by
        show _ = _
        rw [noteF, hx]
        simp only [hs, Int.toNat_natCast]
        rfl
      clear hx hs hxs
      obtain ⟨W2, hNW2, BX2, hW2, hzW2⟩ := Box.named wr #[.int .i64 (s : Int), .int .i64 x.price.lo, .int .i64 x.price.hi] 152
      have e0 := BX2.cell 0 (.int .i64 (s : Int)) rfl
      have e1 := BX2.cell 1 (.int .i64 x.price.lo) rfl
      have e2 := BX2.cell 2 (.int .i64 x.price.hi) rfl
      have n0 := (BX1.lift (below_on hb hW2)).cell s _ (prC_at f hs4)
      have hC := fun (y : After W2) => Contains_any so out (k : Int) (At y) ((ho.below (encR_mono _) (below_on hw hW2)).below (encR_mono _) (At.below y))
      obtain ⟨y, hy⟩ : ∃ y, f s = y := ⟨_, rfl⟩
      rw [hy] at n0 HF
      clear hy
      have HC := Lib.hid hC
      clear hC
      have hs1 : (0 : Int) ≤ (s : Int) := by omega
      have hs2 : (s : Int) < 4 := by omega
      cases hcc : out.any (· == (k : Int))
      · rw [hcc] at HF HC
        cases hh : inB y x.price.lo x.price.hi
        · rw [hh] at HF
          go_wp2
          have zz0 := fun x : After W2 => At.cell e0 x
          have zz1 := fun x : After W2 => At.cell e1 x
          have zz2 := fun x : After W2 => At.cell e2 x
          have zz3 := fun x : After W2 => At.cell n0 x
          refine wp_region_after (by kernel_rfl) (by kernel_rfl) ?_
          repeat (go_big_quiet_step ((first | (go_at_call 159; exact after_same (HC.out _)) | (go_at_call 155; exact after_call (call_b (hasM_any _ _ _ _) hh)))))
          refine wpQuiet_nil ?_
          intro W3 hbW3
          clear zz0 zz1 zz2 zz3
          go_wp2
          go_ret
          refine ⟨ret_bool ?_, below_on (below_on hw hW2) hbW3⟩
          rw [HE.out]
          symm
          exact range_all_of hlt HF.out
        · rw [hh] at HF
          go_wp2
          have zz0 := fun x : After W2 => At.cell e0 x
          have zz1 := fun x : After W2 => At.cell e1 x
          have zz2 := fun x : After W2 => At.cell e2 x
          have zz3 := fun x : After W2 => At.cell n0 x
          refine wp_region_after (by kernel_rfl) (by kernel_rfl) ?_
          repeat (go_big_quiet_step ((first | (go_at_call 159; exact after_same (HC.out _)) | (go_at_call 155; exact after_call (call_b (hasM_any _ _ _ _) hh)))))
          refine wpQuiet_nil ?_
          intro W3 hbW3
          clear zz0 zz1 zz2 zz3
          go_wp2
          go_roundw
          case measure => simp [intOf]; omega
          case rel => exact ⟨k + 1, by omega, by go_num, by show _ = true; rw [range_all_succ, hq.out, HF.out]; rfl, below_on (below_on hb hW2) hbW3⟩
      · rw [hcc] at HF HC
        go_wp2
        have zz0 := fun x : After W2 => At.cell e0 x
        have zz1 := fun x : After W2 => At.cell e1 x
        have zz2 := fun x : After W2 => At.cell e2 x
        have zz3 := fun x : After W2 => At.cell n0 x
        refine wp_region_after (by kernel_rfl) (by kernel_rfl) ?_
        repeat (go_big_quiet_step ((go_at_call 159; exact after_same (HC.out _))))
        refine wpQuiet_nil ?_
        intro W3 hbW3
        clear zz0 zz1 zz2 zz3
        go_wp2
        go_roundw
        case measure => simp [intOf]; omega
        case rel => exact ⟨k + 1, by omega, by go_num, by show _ = true; rw [range_all_succ, hq.out, HF.out]; rfl, below_on (below_on hb hW2) hbW3⟩
    · obtain rfl : k = v.notes.n := by omega
      go_wp2
      go_ret
      exact ⟨ret_bool (by rw [HE.out, hq.out]), hw⟩
/-- Whether a chest is sold, that is offered at a sale. -/
def soldF (m : MktD) (f : Nat → Int) (i : Nat) (s : Int) : Bool := !(s == -1) && (match m.chests[i]? with
  | some c => decide (c.reserve ≤ f s.toNat)
  | none => false)
set_option maxHeartbeats 1000000 in
theorem sold_any (v : MktV) (m : MktD) (f : Nat → Int) (i : Nat) (c : ChestD) (s : Int) (w : World) (h : RdMkt w v m) (hc : m.chests[i]? = some c) (hi : i < 4) (hs : s = -1 ∨ (0 ≤ s ∧ s < 4)) :
    Calls Tryz.prog 97 #[.agg v.cs, .agg (prC f), .int .i64 i, .int .i64 s] w fun e w' => e = .returned (.bool (soldF m f i s)) ∧ Below w.heap.size w w' := by
  have HS : Hid (soldF m f i s = (!(s == -1) && decide (c.reserve ≤ f s.toNat))) := by show _ = _; rw [soldF, hc]
  have hin : i < v.chests.n := by rw [← h.chests.len]; exact lt_of_at hc
  obtain ⟨b, o, t, ha, hbl, hc0, hc1, _⟩ := h.chests.chest_at hc
  obtain ⟨W0, hNW0, BX, hW0, hzW0⟩ := Box.named w v.cs 49
  obtain ⟨W1, hNW1, BX1, hW1, hzW1⟩ := Box.named W0 (prC f) 167
  have hw1 := below_on hW0 hW1
  have c7 := (BX.lift hW1).cell 7 (.slice v.chests.a v.chests.n v.chests.c) rfl
  rw [ha] at c7
  have hc1 := lift hw1 hc1
  clear hc ha
  rcases hs with rfl | ⟨hs1, hs2⟩
  · go_enter Tryz.func97, Tryz.ntmps97
    go_wp2
    have zz0 := fun x : After W1 => At.cell c7 x
    refine wp_region_after (by kernel_rfl) (by kernel_rfl) ?_
    repeat (go_big_quiet_step ((fail)))
    refine wpQuiet_nil ?_
    intro W2 hbW2
    clear zz0
    go_wp2
    go_ret
    exact ⟨ret_bool (by rw [HS.out]; rfl), below_on hw1 hbW2⟩
  · obtain ⟨sn, rfl⟩ := Int.eq_ofNat_of_zero_le hs1
    have n0 := BX1.cell sn _ (prC_at f (by omega))
    have hne : ((sn : Int) != -1) = true := by simp
    have HS2 : Hid (soldF m f i (sn : Int) = decide (c.reserve ≤ f sn)) := by
      show _ = _
      have : ((sn : Int) == -1) = false := by simp
      rw [HS.out, this]; rfl
    obtain ⟨y, hy⟩ : ∃ y, f sn = y := ⟨_, rfl⟩
    rw [hy] at n0 HS2
    clear hy
    by_cases hle : c.reserve ≤ y
    · have hd : decide (c.reserve ≤ y) = true := by simp [hle]
      have HD := Lib.hid hd
      go_enter Tryz.func97, Tryz.ntmps97
      go_wp2
      have zz0 := fun x : After W1 => At.cell c7 x
      have zz1 := fun x : After W1 => At.cell n0 x
      have zz2 := fun x : After W1 => At.cell hc1 x
      refine wp_region_after (by kernel_rfl) (by kernel_rfl) ?_
      repeat (go_big_quiet_step ((fail)))
      refine wpQuiet_nil ?_
      intro W2 hbW2
      clear zz0 zz1 zz2
      go_wp2
      go_ret
      exact ⟨ret_bool (by rw [HS2.out, HD.out]), below_on (below_on hW0 hW1) hbW2⟩
    · have hd : decide (c.reserve ≤ y) = false := by simp; omega
      have HD := Lib.hid hd
      go_enter Tryz.func97, Tryz.ntmps97
      go_wp2
      have zz0 := fun x : After W1 => At.cell c7 x
      have zz1 := fun x : After W1 => At.cell n0 x
      have zz2 := fun x : After W1 => At.cell hc1 x
      refine wp_region_after (by kernel_rfl) (by kernel_rfl) ?_
      repeat (go_big_quiet_step ((fail)))
      refine wpQuiet_nil ?_
      intro W2 hbW2
      clear zz0 zz1 zz2
      go_wp2
      go_ret
      exact ⟨ret_bool (by rw [HS2.out, HD.out]), below_on (below_on hW0 hW1) hbW2⟩
end Go.Proofs.YtenfnakhijobkaaGreat
namespace Go.Proofs.YtenfnakhijobkaaGreat
open Go.RowKit Go.Proofs.YtenfnakhijobkaaGreatW.PrintLast
attribute [local go_sem] Oper.semAt_some
def ChoosePOut (Wc : World) (lo hi Bn N i : Nat) (f : Nat → Int) (J : List (List Int) → World → Prop) (Jx : World → Prop) (done : List (List Int)) (e : Ending) (W' : World) : Prop :=
  (e = .returned (.bool true) ∧ ∃ f', (∀ j, j < i → f' j = f j) ∧ (∀ j, N ≤ j → f' j = 0) ∧ Zone Wc lo hi Bn (prC f') 167 W' ∧ J done W') ∨ (e = .returned (.bool false) ∧ Jx W')
/-- What holds of a market while prices are chosen. -/
def MktInv (Bm : Nat) (v : MktV) (m : MktD) (W : World) : Prop := Box W Bm v.cs 49 ∧ RdMkt W v m
set_option maxHeartbeats 4000000 in
set_option maxRecDepth 100000 in
theorem chooseP_leaf (lp lo hi Bm By Bn Bc : Nat) (v : MktV) (m : MktD) (Wc : World) (J : List (List Int) → World → Prop) (Jx : World → Prop) (all : List (List Int))
    (hLn : m.sales.length ≤ 4) (hBy : lo ≤ By ∧ By < hi ∧ By ≠ Bn) (hBn : lo ≤ Bn ∧ Bn < hi)
    (c2 : Wc.cell? ⟨By, 0, none⟩ = some (.func (.yield lp) #[] #[])) (hJI : ∀ pre W, J pre W → MktInv Bm v m W)
    (hY : ∀ pre x W1 m, hi ≤ W1.heap.size → J pre W1 → (pre ++ [x]) <+: all → YieldAt Fence.wide m Tryz.prog lp #[.agg (arrP x)] W1 fun e W' => (e = .returned (.bool true) ∧ J (pre ++ [x]) W' ∧ KeepR lo hi W1 W') ∨ (e = .returned (.bool false) ∧ Jx W'))
    (p : List Int) (f : Nat → Int) (pre : List (List Int)) (W : World) (n : Nat) (hp : p.length = m.sales.length) (hf : ∀ j, j < p.length → f j = p.getD j 0) (hf0 : ∀ j, m.sales.length ≤ j → f j = 0)
    (hz : Zone Wc lo hi Bn (prC f) 167 W) (hj : J pre W) (hall : (pre ++ [p]) <+: all) :
    CallsIn Fence.wide n Tryz.prog 166 #[.int .i64 (p.length : Int), .pointer (some ⟨Bm, 0, none⟩), .pointer (some ⟨By, 0, none⟩), .pointer (some ⟨Bn, 0, none⟩), .pointer (some ⟨Bc, 0, none⟩)] W (ChoosePOut Wc lo hi Bn m.sales.length p.length f J Jx (pre ++ [p])) := by
  have hfe : f = fun j => p.getD j 0 := by
    funext j
    by_cases h : j < p.length
    · exact hf j h
    · rw [hf0 j (by omega), List.getD_eq_getElem?_getD, List.getElem?_eq_none (by omega)]; rfl
  have hI := hJI pre W hj
  have e1 := hI.1.cell 6 (.slice v.sales.a v.sales.n v.sales.c) rfl
  have hrn : m.sales.length = v.sales.n := hI.2.sales.len
  have e2 := hz.cell hBy.1 hBy.2.1 hBy.2.2 c2
  have n0 := hz.now.cell 0 _ (prC_at f (by decide))
  have n1 := hz.now.cell 1 _ (prC_at f (by decide))
  have n2 := hz.now.cell 2 _ (prC_at f (by decide))
  have n3 := hz.now.cell 3 _ (prC_at f (by decide))
  obtain ⟨fn, tmps, assign, body, hy, hR⟩ := hY pre p W (n - 1) hz.size hj hall
  rw [arrP, ← hfe] at hy
  have HF0 := Lib.hid hf0
  have hpn : p.length = v.sales.n := by omega
  have HZ := Lib.hid hz
  have hr11 : v.sales.n ≤ 4 := by omega
  rw [hpn]
  clear hfe hf hf0 hp hrn hY hpn hz hj hall hJI hI
  refine callsIn_of_wp Tryz.func166 rfl trivial ?_ rfl
  simp only [Tryz.ntmps166, List.size_toArray, List.length_cons, List.length_nil, Nat.reduceAdd, Nat.reduceSub, Array.replicate_succ, Array.replicate_zero, List.push_toArray, List.append_toArray, List.nil_append, List.cons_append]
  gi_wp2
  refine ⟨wideD _, hR.mono ?_⟩
  rintro e W3 (⟨rfl, hJ3, hk3⟩ | ⟨rfl, hJx3⟩)
  · gi_wp2
    go_ret
    exact .inl ⟨rfl, f, fun _ _ => rfl, HF0.out, HZ.out.keep hBn hk3, hJ3⟩
  · gi_wp2
    go_ret
    exact .inr ⟨rfl, hJx3⟩
theorem nearF_last {step : Int} {p : List Int} {f : Nat → Int} {x : Int} (hf : ∀ j, j < p.length → f j = p.getD j 0) : nearF step (putF f p.length x) p.length = nearO step p.getLast? x := by
  unfold nearF
  have h1 : putF f p.length x p.length = x := by simp [putF]
  rw [h1]
  by_cases h0 : p.length = 0
  · have : p = [] := List.eq_nil_of_length_eq_zero h0
    subst this
    simp [nearO]
  · have h2 : putF f p.length x (p.length - 1) = p.getD (p.length - 1) 0 := by
      unfold putF
      rw [if_neg (by omega), hf _ (by omega)]
    rw [h2, List.getLast?_eq_getElem?, List.getElem?_eq_getElem (by omega)]
    simp only [nearO, List.getD_eq_getElem?_getD, List.getElem?_eq_getElem (show p.length - 1 < p.length by omega), Option.getD_some]
    simp [h0]
set_option maxHeartbeats 4000000 in
set_option maxRecDepth 100000 in
theorem chooseP_in (lp lo hi Bm By Bn Bc : Nat) (v : MktV) (m : MktD) (hm : MOk m) (Wc : World) (J : List (List Int) → World → Prop) (Jx : World → Prop) (all : List (List Int))
    (hBy : lo ≤ By ∧ By < hi ∧ By ≠ Bn) (hBn : lo ≤ Bn ∧ Bn < hi) (hBc : lo ≤ Bc ∧ Bc < hi ∧ Bc ≠ Bn)
    (c2 : Wc.cell? ⟨By, 0, none⟩ = some (.func (.yield lp) #[] #[]))
    (c4 : Wc.cell? ⟨Bc, 0, none⟩ = some (.func (.func 166) #[] #[.pointer (some ⟨Bm, 0, none⟩), .pointer (some ⟨By, 0, none⟩), .pointer (some ⟨Bn, 0, none⟩), .pointer (some ⟨Bc, 0, none⟩)]))
    (hJI : ∀ pre W, J pre W → MktInv Bm v m W)
    (hJ : ∀ pre A B row, J pre A → A.grownBy B row → (∀ r, row = some r → lo ≤ r ∧ r < hi) → J pre B)
    (hY : ∀ pre x W1 m, hi ≤ W1.heap.size → J pre W1 → (pre ++ [x]) <+: all → YieldAt Fence.wide m Tryz.prog lp #[.agg (arrP x)] W1 fun e W' => (e = .returned (.bool true) ∧ J (pre ++ [x]) W' ∧ KeepR lo hi W1 W') ∨ (e = .returned (.bool false) ∧ Jx W')) :
    ∀ (rest : List Rg) (p : List Int) (f : Nat → Int) (pre : List (List Int)) (W : World) (n : Nat), m.prs.drop p.length = rest → p.length ≤ m.sales.length → (∀ j, j < p.length → f j = p.getD j 0) → (∀ j, m.sales.length ≤ j → f j = 0) → (∀ x ∈ p, 0 ≤ x ∧ x ≤ 20) →
      Zone Wc lo hi Bn (prC f) 167 W → J pre W → (pre ++ (enumP m.step p.getLast? rest).map (p ++ ·)) <+: all →
      CallsIn Fence.wide n Tryz.prog 166 #[.int .i64 (p.length : Int), .pointer (some ⟨Bm, 0, none⟩), .pointer (some ⟨By, 0, none⟩), .pointer (some ⟨Bn, 0, none⟩), .pointer (some ⟨Bc, 0, none⟩)] W (ChoosePOut Wc lo hi Bn m.sales.length p.length f J Jx (pre ++ (enumP m.step p.getLast? rest).map (p ++ ·))) := by
  intro rest
  have hpl4 : m.prs.length = m.sales.length := by simp [MktD.prs]
  induction rest with
  | nil =>
    intro p f pre W n hrest hpl hf hf0 hpb hz hj hall
    have hp : p.length = m.sales.length := by
      have := congrArg List.length hrest
      simp at this
      omega
    have := chooseP_leaf lp lo hi Bm By Bn Bc v m Wc J Jx all hm.s4 hBy hBn c2 hJI hY p f pre W n hp hf hf0 hz hj (by simpa [enumP] using hall)
    simpa [enumP] using this
  | cons r rest ih =>
    intro p f pre W n hrest hpl hf hf0 hpb hz hj hall
    have hnear := fun x => nearF_last (step := m.step) (x := x) hf
    obtain ⟨i, hi⟩ : ∃ i, p.length = i := ⟨_, rfl⟩
    rw [hi] at hrest hpl hf hnear ⊢
    have hri : m.prs[i]? = some r := by
      have := congrArg (·[0]?) hrest
      simpa using this
    have hrest' : m.prs.drop (i + 1) = rest := by
      have := congrArg List.tail hrest
      simpa using this
    have hiL : i < m.sales.length := by have := lt_of_at hri; omega
    have hr := hm.prsOk r (List.mem_of_getElem? hri)
    obtain ⟨sl, hsl⟩ : ∃ sl, m.sales[i]? = some sl := ⟨m.sales[i], List.getElem?_eq_getElem hiL⟩
    have hrp : sl.price = r := by
      simp only [MktD.prs, List.getElem?_map, hsl] at hri
      simpa using hri
    have hI := hJI pre W hj
    have hrn : m.sales.length = v.sales.n := hI.2.sales.len
    have hin : i < v.sales.n := by omega
    have hi4 : i < 4 := by have := hm.s4; omega
    have hnle : v.sales.n ≤ 4 := by have := hm.s4; omega
    have hne : ((i : Int) == (v.sales.n : Int)) = false := by simp; omega
    obtain ⟨sz, hsz⟩ : ∃ sz : Nat, r.hi - r.lo + 1 = (sz : Int) := ⟨(r.hi - r.lo + 1).toNat, by omega⟩
    have hszn : r.size.toNat = sz := by unfold Rg.size; omega
    have hsz41 : sz ≤ 21 := by omega
    obtain ⟨sa, hsa⟩ : ∃ sa, v.sales.a = sa := ⟨_, rfl⟩
    have e1 := hI.1.cell 6 (.slice v.sales.a v.sales.n v.sales.c) rfl
    obtain ⟨b, o, ha0, hbl, hday, hlo, hhi⟩ := hI.2.sales.sale_at hsl
    rw [hrp] at hlo hhi
    rw [hsa] at e1 ha0
    subst ha0
    have hst : v.step = m.step := hI.2.step
    have hstb := hm.step
    have HST := Lib.hid hst
    have HSA := Lib.hid hsa
    have HJI := Lib.hid hJI
    have HYY := Lib.hid hY
    have HJJ := Lib.hid hJ
    have HIH := Lib.hid ih
    have HI := Lib.hid hi
    have HREST := Lib.hid hrest'
    have HF := Lib.hid hf
    have HF0 := Lib.hid hf0
    have HRP := Lib.hid hrp
    have HSL := Lib.hid hsl
    have HSZ := Lib.hid hsz
    have HSZN := Lib.hid hszn
    have HALL := Lib.hid hall
    have HPB := Lib.hid hpb
    have HC4 := Lib.hid c4
    have HZ := Lib.hid hz
    have HJ0 := Lib.hid hj
    have HNR := Lib.hid hnear
    clear hz hj hY hJ hJI ih hi hrest' hf hf0 hsl hrp hri hszn hall hrest hrn c4 hI hpb hnear hst hsa
    obtain ⟨G, hG⟩ : ∃ G : Int → List (List Int), G = fun x => if nearO m.step p.getLast? x then (enumP m.step (some x) rest).map ((p ++ [x]) ++ ·) else [] := ⟨_, rfl⟩
    have HG := Lib.hid hG
    have HGA : Hid ((enumP m.step p.getLast? (r :: rest)).map (p ++ ·) = r.nums.flatMap G) := by
      show _ = _
      rw [hG]
      simp only [enumP, List.map_flatMap]
      congr 1
      funext x
      split
      · rw [List.map_map]
        congr 1
        funext q
        simp
      · rfl
    clear hG
    refine callsIn_of_wp Tryz.func166 rfl trivial ?_ rfl
    simp only [Tryz.ntmps166, List.size_toArray, List.length_cons, List.length_nil, Nat.reduceAdd, Nat.reduceSub, Array.replicate_succ, Array.replicate_zero, List.push_toArray, List.append_toArray, List.nil_append, List.cons_append]
    gi_wp2
    clear e1 hday hlo hhi hbl
    gi_loopw [7] (fun c wr => ∃ (k : Nat) (f' : Nat → Int), k ≤ sz ∧ c = .int .i64 (r.lo + (k : Int)) ∧ Hid (∀ j, j < i → f' j = f j) ∧ Hid (∀ j, m.sales.length ≤ j → f' j = 0) ∧ Hid (Zone Wc lo hi Bn (prC f') 167 wr) ∧ Hid (J (pre ++ (r.nums.take k).flatMap G) wr)) (fun c _ => (r.hi + 1 - intOf c).toNat)
    case atStart => exact ⟨0, f, Nat.zero_le _, by simp, (fun _ _ => rfl), HF0.out, HZ.out, by show J _ _; simpa using HJ0.out⟩
    case round =>
      obtain ⟨k, f', hk, rfl, HFA, HFB, HZ1, HJ1⟩ := hrel
      have hI1 := Lib.hid (HJI.out _ _ HJ1.out)
      have e1 := hI1.out.1.cell 6 (.slice v.sales.a v.sales.n v.sales.c) rfl
      obtain ⟨b', o', ha', hbl, hday, hlo, hhi⟩ := hI1.out.2.sales.sale_at HSL.out
      rw [HSA.out] at e1 ha'
      obtain ⟨rfl, rfl⟩ : b = b' ∧ o = o' := by simpa using ha'
      rw [HRP.out] at hlo hhi
      clear ha' hday
      by_cases hlt : k < sz
      · have hle : r.lo + (k : Int) ≤ r.hi := by have := HSZ.out; omega
        have n0 := HZ1.out.now.cell i _ (prC_at f' hi4)
        have nf := HZ1.out.now.free i
        have hz2 := HZ1.out.set i (.int .i64 (r.lo + (k : Int)))
        rw [prC_set f' hi4] at hz2
        have hj2 := HJJ.out _ _ _ (some Bn) HJ1.out (grown_set (grown_rfl wr _) (k := i) (.int .i64 (r.lo + (k : Int)))) (fun r e => by cases e; exact hBn)
        obtain ⟨ws, hws⟩ : ∃ ws, wr.setCell ⟨Bn, i, none⟩ (.int .i64 (r.lo + (k : Int))) = ws := ⟨_, rfl⟩
        rw [hws] at hz2 hj2
        have hI2 := HJI.out _ _ hj2
        have hpbx := HPB.out
        have hf2b : ∀ j, j ≤ i → 0 ≤ putF f' i (r.lo + (k : Int)) j ∧ putF f' i (r.lo + (k : Int)) j ≤ 20 := fun j hj => by
          unfold putF
          by_cases e : j = i
          · rw [if_pos e]; omega
          · rw [if_neg e, HFA.out j (by omega), HF.out j (by omega), List.getD_eq_getElem?_getD]
            have hjl : j < p.length := by rw [HI.out]; omega
            rw [List.getElem?_eq_getElem hjl]
            exact HPB.out _ (List.getElem_mem hjl)
        have hnb : nearF v.step (putF f' i (r.lo + (k : Int))) i = nearO m.step p.getLast? (r.lo + (k : Int)) := by
          rw [HST.out, ← HNR.out]
          unfold nearF
          by_cases e : i = 0
          · simp [e]
          · have h1 : putF f' i (r.lo + (k : Int)) (i - 1) = putF f i (r.lo + (k : Int)) (i - 1) := by unfold putF; rw [if_neg (by omega), if_neg (by omega), HFA.out _ (by omega)]
            have h2 : putF f' i (r.lo + (k : Int)) i = putF f i (r.lo + (k : Int)) i := by simp [putF]
            rw [h1, h2]
        have hNA := near_any v (putF f' i (r.lo + (k : Int))) i hi4 (by rw [HST.out]; exact hstb) hf2b ws
        rw [hnb] at hNA
        have hf2k : ∀ j, m.sales.length ≤ j → putF f' i (r.lo + (k : Int)) j = 0 := fun j hj => by unfold putF; rw [if_neg (by omega)]; exact HFB.out j hj
        have hf2a : ∀ j, j < i → putF f' i (r.lo + (k : Int)) j = f j := fun j hj => by unfold putF; rw [if_neg (by omega)]; exact HFA.out j hj
        have hf2x : putF f' i (r.lo + (k : Int)) i = r.lo + (k : Int) := by simp [putF]
        obtain ⟨f2, hf2⟩ : ∃ f2, putF f' i (r.lo + (k : Int)) = f2 := ⟨_, rfl⟩
        rw [hf2] at hz2 hNA hf2k hf2a hf2x
        have HF2K := Lib.hid hf2k
        have HF2A := Lib.hid hf2a
        have HF2X := Lib.hid hf2x
        have HNA := Lib.hid hNA
        have HZ2 := Lib.hid hz2
        have HJ2 := Lib.hid hj2
        have d0 := hI2.1.cell 0 (.int .i64 v.loft.last) rfl; have d1 := hI2.1.cell 1 (.slice v.loft.air.a v.loft.air.n v.loft.air.c) rfl; have d2 := hI2.1.cell 2 (.slice v.loft.shelves.a v.loft.shelves.n v.loft.shelves.c) rfl; have d3 := hI2.1.cell 3 (.slice v.loft.cakes.a v.loft.cakes.n v.loft.cakes.c) rfl; have d4 := hI2.1.cell 4 (.slice v.loft.put.a v.loft.put.n v.loft.put.c) rfl; have d5 := hI2.1.cell 5 (.slice v.loft.weights.a v.loft.weights.n v.loft.weights.c) rfl; have d6 := hI2.1.cell 6 (.slice v.sales.a v.sales.n v.sales.c) rfl; have d7 := hI2.1.cell 7 (.slice v.chests.a v.chests.n v.chests.c) rfl; have d8 := hI2.1.cell 8 (.int .i64 v.step) rfl; have d9 := hI2.1.cell 9 (.int .i64 v.lots) rfl; have d10 := hI2.1.cell 10 (.slice v.notes.a v.notes.n v.notes.c) rfl
        have m0 := hz2.now.cell 0 _ (prC_at f2 (by decide))
        have m1 := hz2.now.cell 1 _ (prC_at f2 (by decide))
        have m2 := hz2.now.cell 2 _ (prC_at f2 (by decide))
        have m3 := hz2.now.cell 3 _ (prC_at f2 (by decide))
        have e4 := hz2.cell hBc.1 hBc.2.1 hBc.2.2 HC4.out
        have HGK : Hid (G (r.lo + (k : Int)) = if nearO m.step p.getLast? (r.lo + (k : Int)) then (enumP m.step (some (r.lo + (k : Int))) rest).map ((p ++ [r.lo + (k : Int)]) ++ ·) else []) := by show _ = _; rw [HG.out]
        have HTK : Hid (r.nums.take (k + 1) = r.nums.take k ++ [r.lo + (k : Int)]) := nums_take (by rw [HSZN.out]; exact hlt)
        obtain ⟨nb, hnbv⟩ : ∃ nb, nearO m.step p.getLast? (r.lo + (k : Int)) = nb := ⟨_, rfl⟩
        rw [hnbv] at HNA HGK
        clear hz2 hj2 hf2b hnb hNA hf2k hf2a hf2x hf2 hI2 hnbv hpbx
        cases nb
        · gi_wp2_with (refine ⟨trivial, wideD _, ?_⟩; gi_at_call 156; refine (callsIn_wide.2 HNA.out).mono ?_; rintro e w4 ⟨rfl, hb4⟩)
          refine ⟨fun _ h => (by cases h), ?_⟩
          gi_wp2
          go_roundw
          case measure => simp [intOf]; omega
          case rel =>
            refine ⟨k + 1, f2, by omega, by congr 1; omega, HF2A.out, HF2K.out, HZ2.out.below hBn hb4, ?_⟩
            show J _ _
            have hgk := HGK.out
            simp only [Bool.false_eq_true, if_false] at hgk
            rw [HTK.out, flatMap_snoc, ← List.append_assoc, hgk, List.append_nil]
            exact HJJ.out _ _ _ none HJ2.out (grown_below hb4 none) (fun _ e => by cases e)
        · have hlen : (((p ++ [r.lo + (k : Int)]).length : Nat) : Int) = (i : Int) + 1 := by rw [List.length_append, HI.out]; simp
          have hlenN : (p ++ [r.lo + (k : Int)]).length = i + 1 := by rw [List.length_append, HI.out]; simp
          have hpre : (pre ++ (r.nums.take k).flatMap G ++ (enumP m.step (some (r.lo + (k : Int))) rest).map ((p ++ [r.lo + (k : Int)]) ++ ·)) <+: all := by
            have h1 := HALL.out
            rw [HGA.out] at h1
            have h2 : r.nums = r.nums.take k ++ [r.lo + (k : Int)] ++ r.nums.drop (k + 1) := by
              rw [← HTK.out]; simp
            rw [h2, List.flatMap_append, flatMap_snoc, ← List.append_assoc] at h1
            obtain ⟨t, ht⟩ := h1
            have hgk := HGK.out
            simp only [if_true] at hgk
            rw [← hgk]
            exact ⟨_, by rw [← ht]; simp only [List.append_assoc]; rfl⟩
          have hIx := fun w4 (hb4 : Below ws.heap.size ws w4) => HIH.out (p ++ [r.lo + (k : Int)]) f2 (pre ++ (r.nums.take k).flatMap G) w4 (n - 1) (by rw [hlenN]; exact HREST.out) (by rw [hlenN]; omega)
            (fun j hj => by
              rw [hlenN] at hj
              by_cases e : j = i
              · rw [e, HF2X.out, List.getD_eq_getElem?_getD, List.getElem?_append_right (by rw [HI.out]; exact Nat.le_refl _), HI.out]; simp
              · rw [HF2A.out j (by omega), HF.out j (by omega), List.getD_eq_getElem?_getD, List.getD_eq_getElem?_getD, List.getElem?_append_left (by rw [HI.out]; omega)])
            HF2K.out (fun x hx => by
              rcases List.mem_append.1 hx with hx | hx
              · exact HPB.out x hx
              · simp at hx; omega)
            (HZ2.out.below hBn hb4) (HJJ.out _ _ _ none HJ2.out (grown_below hb4 none) (fun _ e => by cases e)) (by rw [List.getLast?_concat]; exact hpre)
          rw [hlen, hlenN, List.getLast?_concat] at hIx
          have HII := Lib.hid hIx
          clear hIx hlen hlenN hpre
          gi_wp2_with (first
            | (refine ⟨trivial, wideD _, ?_⟩; gi_at_call 156; refine (callsIn_wide.2 HNA.out).mono ?_; rintro e w4 ⟨rfl, hb4⟩; have e4 := lift hb4 e4)
            | (refine ⟨trivial, wideD _, ?_⟩; gi_at_call 166; refine (HII.out _ hb4).mono ?_; rintro e w5 (⟨rfl, f3, g1, g2, g3, g4⟩ | ⟨rfl, hx⟩)))
          · go_roundw
            case measure => simp [intOf]; omega
            case rel =>
              refine ⟨k + 1, f3, by omega, by congr 1; omega, (fun j hj => by rw [g1 j (by omega)]; exact HF2A.out j hj), g2, g3, ?_⟩
              show J _ _
              have hgk := HGK.out
              simp only [if_true] at hgk
              rw [HTK.out, flatMap_snoc, ← List.append_assoc, hgk]
              exact g4
          · go_ret
            exact .inr ⟨rfl, hx⟩
      · obtain rfl : k = sz := by omega
        have hle : ¬ r.lo + (k : Int) ≤ r.hi := by have := HSZ.out; omega
        have HJE := HJ1.out
        have hall : r.nums.take k = r.nums := by rw [← HSZN.out]; exact nums_all
        rw [hall, ← HGA.out] at HJE
        have HJF := Lib.hid HJE
        clear HJE hall
        gi_wp2
        go_ret
        exact .inl ⟨rfl, f', HFA.out, HFB.out, HZ1.out, HJF.out⟩
theorem allM_any (v : MktV) (w : World) :
    Calls Tryz.prog 138 #[.agg v.cs] w fun e w' => e = .returned (.func (.func 165) #[] #[.pointer (some ⟨w.heap.size, 0, none⟩)]) ∧ w.alloc (.cells v.cs 49) = w' := by
  go_enter Tryz.func138, Tryz.ntmps138
  go_wp2
  go_ret
  exact ⟨rfl, rfl⟩
set_option maxHeartbeats 4000000 in
set_option maxRecDepth 100000 in
theorem prices_iter (v : MktV) (m : MktD) (hm : MOk m) (Bm : Nat) (w0 : World) :
    Iter Tryz.prog 165 #[.pointer (some ⟨Bm, 0, none⟩)] (fun x => .agg (arrP x)) (enumP m.step none m.prs) (MktInv Bm v m) w0 := by
  intro lp n J Jx W hW hJ hJI hY h0
  have HJ := Lib.hid hJ
  have HJI := Lib.hid hJI
  have HY := Lib.hid hY
  have H0 := Lib.hid h0
  clear hJ hY h0 hJI
  obtain ⟨W1, hNW1, BX1, hW1, hzW1⟩ := Box.named W #[.func (.yield lp) #[] #[]] 236
  obtain ⟨W3, hNW3, BX3, hW3, hzW3⟩ := Box.named W1 (prC (fun _ => 0)) 167
  obtain ⟨W4, hNW4, BX4, hW4, hzW4⟩ := Box.named W3 #[.func (.func 166) #[] #[.pointer (some ⟨Bm, 0, none⟩), .pointer (some ⟨W.heap.size, 0, none⟩), .pointer (some ⟨W1.heap.size, 0, none⟩), .pointer (some ⟨W3.heap.size, 0, none⟩)]] 141
  have e4 := BX4.cell 0 (.func (.func 166) #[] #[.pointer (some ⟨Bm, 0, none⟩), .pointer (some ⟨W.heap.size, 0, none⟩), .pointer (some ⟨W1.heap.size, 0, none⟩), .pointer (some ⟨W3.heap.size, 0, none⟩)]) rfl
  have d0 := below_on hW1 (below_on hW3 hW4)
  have d1 := below_on hW3 hW4
  have s1 : W.heap.size < W1.heap.size := by have := hzW1.out; omega
  have s2 : W1.heap.size < W3.heap.size := by have := hzW3.out; omega
  have s3 : W3.heap.size < W4.heap.size := by have := hzW4.out; omega
  have hC := chooseP_in lp W.heap.size W4.heap.size Bm W.heap.size W1.heap.size W3.heap.size v m hm W4 (J W4.heap.size) Jx (enumP m.step none m.prs) (by omega) (by omega) (by omega)
         ((BX1.lift d1).cell 0 _ rfl) e4 (fun pre W' hj => HJI.out _ _ _ hj)
         (fun pre A B row a b c => HJ.out _ pre A B row a b c) (fun pre x W1 m h1 h2 h3 => HY.out _ pre x W1 m (by omega) h1 h2 h3)
         m.prs [] (fun _ => 0) [] W4 (n - 1) rfl (Nat.zero_le _) (fun j hj => absurd hj (Nat.not_lt_zero j)) (fun _ _ => rfl) (fun x hx => by cases hx)
         (Zone.refl (Nat.le_refl _) ((BX3.lift hW4))) (H0.out _ W4 (by omega) (Nat.le_refl _) d0) (by simp)
  have HC := Lib.hid hC
  clear hC
  refine callsIn_of_wp Tryz.func165 rfl trivial ?_ rfl
  simp only [Tryz.ntmps165, List.size_toArray, List.length_cons, List.length_nil, Nat.reduceAdd, Nat.reduceSub, Array.replicate_succ, Array.replicate_zero, List.push_toArray, List.append_toArray, List.nil_append, List.cons_append]
  gi_wp2_with (refine ⟨trivial, wideD _, ?_⟩; gi_at_call 166; refine HC.out.mono ?_; rintro e w5 (⟨rfl, f5, _, _, hz5, hj5⟩ | ⟨rfl, hx5⟩))
  · go_end0
    exact ⟨⟨_, rfl⟩, .inl ⟨W4.heap.size, by omega, hz5.size, by simpa using hj5⟩⟩
  · go_end0
    exact ⟨⟨_, rfl⟩, .inr hx5⟩
end Go.Proofs.YtenfnakhijobkaaGreat
namespace Go.Proofs.YtenfnakhijobkaaGreat
open Go.RowKit

theorem spot_eqM (a b c d : Int) (w : World) : (Op.equal 147 (.agg #[.int .i64 a, .int .i64 b]) (.agg #[.int .i64 c, .int .i64 d])).run Tryz.prog w = .ok (a == c && b == d) w := by
  have u3 := Tryz.underlying3
  have a3 := Tryz.isAgg3
  have z3 := Tryz.sizeOf3
  have hS : Tryz.prog.underlying 147 = some (.struct (Tryz.prog.fieldsOf 147)) := by kernel_rfl
  have hp : Tryz.prog.stoodInHeld 147 = false := by kernel_rfl
  unfold Op.equal Op.maxDepth
  rw [show (10000 : Nat) = 9999 + 1 from rfl, run_equalIn_agg w 9999 147 _ _ hS hp]
  simp only [Program.fieldsOf, Tryz.underlying147]
  go_simp
  by_cases h1 : a = c <;> by_cases h2 : b = d <;> simp [h1, h2]
theorem findAsking_spotM (a b : Int) (w : World) : ∀ (es : List MapEntry) (i : Nat), SpotKeys es →
    (∃ j e, es[j]? = some e ∧ e.key = spotV a b ∧ (Instr.findAsking 147 (spotV a b) es i).run Tryz.prog w = .ok (some (i + j, e.val)) w) ∨
    ((∀ e ∈ es, e.key ≠ spotV a b) ∧ (Instr.findAsking 147 (spotV a b) es i).run Tryz.prog w = .ok none w)
  | [], i, _ => Or.inr ⟨by simp, rfl⟩
  | e :: es, i, h => by
    obtain ⟨c, d, hk⟩ := h e (by simp)
    have hrun : (Instr.findAsking 147 (spotV a b) (e :: es) i).run Tryz.prog w = if (a == c && b == d) = true then .ok (some (i, e.val)) w else (Instr.findAsking 147 (spotV a b) es (i + 1)).run Tryz.prog w := by
      simp only [Instr.findAsking, Sem.run_bind, hk, spot_eqM, Result.andThen_ok, Sem.run_ite, Sem.run_pure]
    by_cases hac : (a == c && b == d) = true
    · rw [if_pos hac] at hrun
      simp at hac
      exact Or.inl ⟨0, e, rfl, by rw [hk, hac.1, hac.2], by simpa using hrun⟩
    · rw [if_neg hac] at hrun
      have hne : e.key ≠ spotV a b := by
        rw [hk]
        intro e2
        simp at e2
        apply hac
        simp [e2.1, e2.2]
      rcases findAsking_spotM a b w es (i + 1) (fun e he => h e (by simp [he])) with ⟨j, e', hj, hk', hr⟩ | ⟨hno, hr⟩
      · exact Or.inl ⟨j + 1, e', by simpa using hj, hk', by rw [hrun, hr, show i + 1 + j = i + (j + 1) from by omega]⟩
      · exact Or.inr ⟨fun e' he' => by
          rcases List.mem_cons.1 he' with rfl | he'
          · exact hne
          · exact hno e' he', by rw [hrun, hr]⟩
theorem findKey_spotM (a b : Int) (w : World) (es : List MapEntry) (h : SpotKeys es) :
    (∃ j e, es[j]? = some e ∧ e.key = spotV a b ∧ (Instr.findKey 147 (spotV a b) es).run Tryz.prog w = .ok (some (j, e.val)) w) ∨
    ((∀ e ∈ es, e.key ≠ spotV a b) ∧ (Instr.findKey 147 (spotV a b) es).run Tryz.prog w = .ok none w) := by
  have hu : ∀ w, (underlying 147).run Tryz.prog w = .ok _ w := run_underlying Tryz.underlying147
  cases es with
  | nil => exact Or.inr ⟨by simp, by simp [Instr.findKey, hu, Instr.findNow]⟩
  | cons e es =>
    have hrun : (Instr.findKey 147 (spotV a b) (e :: es)).run Tryz.prog w = (Instr.findAsking 147 (spotV a b) (e :: es) 0).run Tryz.prog w := by
      simp [Instr.findKey, hu, Instr.findNow, Instr.sameNow]
    have := findAsking_spotM a b w (e :: es) 0 h
    simp only [Nat.zero_add] at this
    rw [hrun]
    exact this
theorem checkKey_spotNM (a b : Int) (em : Bool) (n : Nat) (w : World) : (Instr.checkKey em (n + 1 + 1) 147 (spotV a b)).run Tryz.prog w = .ok () w := by
  have u3 := Tryz.underlying3
  have a3 := Tryz.isAgg3
  have z3 := Tryz.sizeOf3
  have hu : ∀ w, (underlying 147).run Tryz.prog w = .ok _ w := run_underlying Tryz.underlying147
  have hi := checkKey_int em n
  rw [Instr.checkKey]
  simp only [Sem.run_bind, hu, Result.andThen_ok]
  go_simp
theorem checkKey_spotM (a b : Int) (em : Bool) (w : World) : (Instr.checkKey em 10000 147 (spotV a b)).run Tryz.prog w = .ok () w := checkKey_spotNM a b em 9998 w
theorem lookup_spotM (a b : Int) (r : Nat) (es : Array MapEntry) (clock : Nat) (w : World) (hr : w.heap[r]? = some (.map es clock)) (h : SpotKeys es.toList) :
    (∃ (j : Nat) (e : MapEntry), es.toList[j]? = some e ∧ e.key = spotV a b ∧ (Instr.lookup 142 (.map (some r)) (spotV a b) false).run Tryz.prog w = .ok e.val w) ∨
    ((∀ e ∈ es.toList, e.key ≠ spotV a b) ∧ (Instr.lookup 142 (.map (some r)) (spotV a b) false).run Tryz.prog w = .ok (.bool false) w) := by
  have hu : ∀ w, (underlying 142).run Tryz.prog w = .ok _ w := run_underlying Tryz.underlying142
  have hz : ∀ w, (zeroValue 4).run Tryz.prog w = .ok (.bool false) w := Tryz.zeroValue4
  have hg : (getObj r).run Tryz.prog w = .ok (.map es clock) w := by simp [getObj, Sem.run, hr]
  rcases findKey_spotM a b w es.toList h with ⟨j, e, hj, hk, hrun⟩ | ⟨hno, hrun⟩
  · refine Or.inl ⟨j, e, hj, hk, ?_⟩
    unfold Instr.lookup
    simp [hu, hg, checkKey_spotM, hrun]
  · refine Or.inr ⟨hno, ?_⟩
    unfold Instr.lookup
    simp [hu, hg, checkKey_spotM, hrun, hz]
theorem update_spotM (a b : Int) (v : Value) (r : Nat) (es : Array MapEntry) (clock : Nat) (w : World) (hr : w.heap[r]? = some (.map es clock)) (h : SpotKeys es.toList) (hno : ∀ e ∈ es.toList, e.key ≠ spotV a b) :
    (Instr.mapUpdate 142 (.map (some r)) (spotV a b) v).run Tryz.prog w = .ok () (w.putObj r (.map (es.push { key := spotV a b, val := v, born := clock }) (clock + 1))) := by
  have hu : ∀ w, (underlying 142).run Tryz.prog w = .ok _ w := run_underlying Tryz.underlying142
  have hg : (getObj r).run Tryz.prog w = .ok (.map es clock) w := by simp [getObj, Sem.run, hr]
  rcases findKey_spotM a b w es.toList h with ⟨j, e, hj, hk, hrun⟩ | ⟨_, hrun⟩
  · exact absurd hk (hno e (List.mem_of_getElem? hj))
  · unfold Instr.mapUpdate
    simp [hu, hg, checkKey_spotM, hrun]
    simp [setObj, Sem.run, hr]
    rfl
end Go.Proofs.YtenfnakhijobkaaGreat
namespace Go.Proofs.YtenfnakhijobkaaGreat
open Go.RowKit Go.Proofs.YtenfnakhijobkaaGreatW.PrintLast
def dayS (l : LoftD) (p : List Int) (k : Int) : Int × Int :=
  if askedE l (isPlace l p && l.is k) ≠ 0 then (0, askedE l (isPlace l p && l.is k))
  else if sureDay l (lexT l) ((gI p k).getD 0).toNat k.toNat = 12 then (0, 10)
  else (sureDay l (lexT l) ((gI p k).getD 0).toNat k.toNat, 0)
set_option maxHeartbeats 4000000 in
set_option maxRecDepth 100000 in
theorem Day_any (v : LoftV) (l : LoftD) (s : Sl) (p : List Int) (k : Int) (w : World) (h : RdLoft w v l) (hp : RdInts w s p) :
    Calls Tryz.prog 52 #[.agg v.cs, .slice s.a s.n s.c, .int .i64 k] w fun e w' => e = .returned (.tuple #[.int .i64 (dayS l p k).1, .int .i64 (dayS l p k).2]) ∧ Below w.heap.size w w' := by
  obtain ⟨W0, hNW0, BX, hW0, hzW0⟩ := Box.named w v.cs 44
  obtain ⟨W1, hNW1, BX1, hW1, hzW1⟩ := Box.named W0 #[.slice s.a s.n s.c] 25
  obtain ⟨W2, hNW2, BX2, hW2, hzW2⟩ := Box.named W1 #[.int .i64 k] 3
  have hw2 := below_on (below_on hW0 hW1) hW2
  have BL := (BX.lift hW1).lift hW2
  have BS := BX1.lift hW2
  have c0 := BL.cell 0 (.int .i64 v.last) rfl
  have c1 := BL.cell 1 (.slice v.air.a v.air.n v.air.c) rfl
  have c2 := BL.cell 2 (.slice v.shelves.a v.shelves.n v.shelves.c) rfl
  have c3 := BL.cell 3 (.slice v.cakes.a v.cakes.n v.cakes.c) rfl
  have c4 := BL.cell 4 (.slice v.put.a v.put.n v.put.c) rfl
  have c5 := BL.cell 5 (.slice v.weights.a v.weights.n v.weights.c) rfl
  have e1 := BS.cell 0 (.slice s.a s.n s.c) rfl
  have e2 := BX2.cell 0 (.int .i64 k) rfl
  have hf : LOk l → ∀ w', Below W2.heap.size W2 w' → Calls Tryz.prog 114 #[.pointer (some ⟨w.heap.size, 0, none⟩), .pointer (some ⟨W0.heap.size, 0, none⟩), .pointer (some ⟨W1.heap.size, 0, none⟩)] w' fun e w'' => e = .returned (.bool (isPlace l p && l.is k)) ∧ Below w'.heap.size w' w'' := fun hl w' hb =>
    DayFine_any v l hl s p k _ _ _ w' (h.below (below_on hw2 hb)) (hp.below (encR_mono _) (below_on hw2 hb)) (BL.lift hb) (BS.lift hb) (BX2.lift hb)
  by_cases h0 : askedE l (isPlace l p && l.is k) = 0
  · obtain ⟨hl, hok, _⟩ := askedE_zero h0
    simp only [Bool.and_eq_true, LoftD.is, inB_iff] at hok
    obtain ⟨kn, hkn⟩ := Int.eq_ofNat_of_zero_le hok.2.1
    have hkl : kn < l.cakes.length := by omega
    obtain ⟨sn, bd, hps, hbd⟩ := place_at hok.1 hkl
    have hck : l.cakes[kn]? = some l.cakes[kn] := List.getElem?_eq_getElem hkl
    have hd : dayS l p k = if sureDay l (lexT l) sn kn = 12 then (0, 10) else (sureDay l (lexT l) sn kn, 0) := by
      rw [dayS, if_neg (by simp [h0]), hkn, gI_nat, hps]; rfl
    have hA := asked_ok v l W2 (h.below hw2) 114 _ (enters_of Tryz.func114 (by kernel_rfl) rfl) _ hf h0
    have HA := Lib.hid hA
    have HS := Lib.hid fun w' B r sl (h' : Wk w' B r v l sl) => sure_any B r v l sl (lexT l) hl (lexT_ok hl) sn kn bd l.cakes[kn] hbd hck w' h'.rd h'.c7 h'.mem
    obtain ⟨d, hdd⟩ : ∃ d, sureDay l (lexT l) sn kn = d := ⟨_, rfl⟩
    rw [hdd] at hd HS
    have hnp : kn < s.n := by rw [← hp.len]; exact lt_of_at hps
    have hk5 : kn < 5 := by have := hl.cakes5; omega
    obtain ⟨pb, po, hpa, hpl, hpc⟩ := hp.int_at hps
    have HPA := Lib.hid hpa
    have HD := Lib.hid hd
    subst hkn
    have hpc := lift hw2 hpc
    rw [hpa] at e1
    clear hf h0 hok hA hdd hd hps hbd hck hpa
    by_cases h12 : d = 12
    all_goals
      first
        | have hdb : (d == 12) = true := by simp [h12]; done
        | have hdb : (d == 12) = false := by simp [h12]; done
      have H12 := Lib.hid h12
      clear h12
      go_enter Tryz.func52, Tryz.ntmps52
      go_wp2_with (go_at_call 113; refine HA.out.mono ?_; rintro e w3 ⟨B, r, sl, rfl, hwk, hr, hb3⟩; have f1 := lift hb3 e1; have f2 := lift hb3 e2; have fp := lift hb3 hpc)
      have HWK := Lib.hid (hwk.below (below_drew w3))
      refine start_ (n := 9) (S := fun w' => w'.cell? ⟨W1.heap.size, 0, none⟩ = some (.int .i64 (kn : Int)) ∧ w'.cell? ⟨W0.heap.size, 0, none⟩ = some (.slice (some ⟨pb, po, none⟩) s.n s.c) ∧ w'.cell? ⟨pb, po + kn, none⟩ = some (.int .i64 (sn : Int))) (ds := []) #[false, false, false, false, false, false, false, false, false] (by kernel_rfl) rfl rfl ⟨f2, f1, fp⟩ (fun hHeld => ?_)
      obtain ⟨s0, s1, s2⟩ := hHeld
      refine pure_ (i := 0) (N := some 20) (v := ?_) (a' := ?_) #[true, false, false, false, false, false, false, false, false] rfl rfl (by kernel_rfl) (fun _ _ _ h => h) (Or.inl ⟨by rfl, ?_⟩) ?_ ?_
      rotate_left
      · intro w'
        go_simp
        with_reducible rfl
      rotate_left
      · simp only [Act.put, List.setIfInBounds_toArray, List.set_cons_zero, List.set_cons_succ, i64_w, i32_w]
        rfl
      refine take_ (i := 1) (N := some 21) (v := ?_) (a' := ?_) #[true, true, false, false, false, false, false, false, false] rfl rfl (by kernel_rfl) (fun _ _ _ h => h) (Or.inl ⟨by rfl, ?_⟩) ⟨s0, s1, s2⟩ ?_ ?_
      rotate_left
      · rintro w' ⟨zs0, zs1, zs2⟩
        go_simp
        with_reducible rfl
      rotate_left
      · simp only [Act.put, List.setIfInBounds_toArray, List.set_cons_zero, List.set_cons_succ, i64_w, i32_w]
        rfl
      refine take_ (i := 2) (N := some 22) (v := ?_) (a' := ?_) #[true, true, true, false, false, false, false, false, false] rfl rfl (by kernel_rfl) (fun _ _ _ h => h) (Or.inl ⟨by rfl, ?_⟩) ⟨s0, s1, s2⟩ ?_ ?_
      rotate_left
      · rintro w' ⟨zs0, zs1, zs2⟩
        go_simp
        with_reducible rfl
      rotate_left
      · simp only [Act.put, List.setIfInBounds_toArray, List.set_cons_zero, List.set_cons_succ, i64_w, i32_w]
        rfl
      refine take_ (i := 3) (N := some 23) (v := ?_) (a' := ?_) #[true, true, true, true, false, false, false, false, false] rfl rfl (by kernel_rfl) (fun _ _ _ h => h) (Or.inl ⟨by rfl, ?_⟩) ⟨s0, s1, s2⟩ ?_ ?_
      rotate_left
      · rintro w' ⟨zs0, zs1, zs2⟩
        go_simp
        with_reducible rfl
      rotate_left
      · simp only [Act.put, List.setIfInBounds_toArray, List.set_cons_zero, List.set_cons_succ, i64_w, i32_w]
        rfl
      refine pure_ (i := 4) (N := some 24) (v := ?_) (a' := ?_) #[true, true, true, true, true, false, false, false, false] rfl rfl (by kernel_rfl) (fun _ _ _ h => h) (Or.inl ⟨by rfl, ?_⟩) ?_ ?_
      rotate_left
      · intro w'
        go_simp
        with_reducible rfl
      rotate_left
      · simp only [Act.put, List.setIfInBounds_toArray, List.set_cons_zero, List.set_cons_succ, i64_w, i32_w]
        rfl
      refine take_ (i := 5) (N := some 25) (v := ?_) (a' := ?_) #[true, true, true, true, true, true, false, false, false] rfl rfl (by kernel_rfl) (fun _ _ _ h => h) (Or.inl ⟨by rfl, ?_⟩) ⟨s0, s1, s2⟩ ?_ ?_
      rotate_left
      · rintro w' ⟨zs0, zs1, zs2⟩
        go_simp
        with_reducible rfl
      rotate_left
      · simp only [Act.put, List.setIfInBounds_toArray, List.set_cons_zero, List.set_cons_succ, i64_w, i32_w]
        rfl
      refine pure_ (i := 6) (N := some 26) (v := ?_) (a' := ?_) #[true, true, true, true, true, true, true, false, false] rfl rfl (by kernel_rfl) (fun _ _ _ h => h) (Or.inl ⟨by rfl, ?_⟩) ?_ ?_
      rotate_left
      · intro w'
        go_simp
        with_reducible rfl
      rotate_left
      · simp only [Act.put, List.setIfInBounds_toArray, List.set_cons_zero, List.set_cons_succ, i64_w, i32_w]
        rfl
      refine one_ (i := 7) (N := some 27) #[true, true, true, true, true, true, true, true, false] rfl rfl (by kernel_rfl) (by decide) (fun K hK => ?_)
      refine goes_ Tryz.func117 (by kernel_rfl) rfl #[.pointer (some ⟨B, 0, none⟩), .agg #[.int .i64 (kn : Int), .int .i64 (sn : Int)]] (by rfl) rfl rfl (by (try simp only [List.map_toArray, List.map_cons, List.map_nil]); first | done | rfl) ?_
      refine (HS.out _ _ _ _ HWK.out).mono ?_
      rintro e w4 ⟨rfl, hm4, hg4⟩
      have hkp := HWK.out.mem.kept hg4
      refine ⟨_, rfl, ?_⟩
      refine hK.out _ _ ⟨hkp.cell _ _ _ s0, hkp.cell _ _ _ s1, hkp.cell _ _ _ s2⟩ (fun hHeld => ?_)
      clear hK K s0 s1 s2
      obtain ⟨s0, s1, s2⟩ := hHeld
      refine norm_ (a' := ?_) ?_ ?_
      rotate_left
      · show Act.put _ (some 27) _ = _
        simp only [Act.put, List.setIfInBounds_toArray, List.set_cons_zero, List.set_cons_succ, i64_w, i32_w]
        rfl
      refine pure_ (i := 8) (N := some 10) (v := ?_) (a' := ?_) #[true, true, true, true, true, true, true, true, true] rfl rfl (by kernel_rfl) (fun _ _ _ h => h) (Or.inl ⟨by rfl, ?_⟩) ?_ ?_
      rotate_left
      · intro w'
        go_simp
        with_reducible rfl
      rotate_left
      · simp only [Act.put, List.setIfInBounds_toArray, List.set_cons_zero, List.set_cons_succ, i64_w, i32_w]
        rfl
      refine done_ (by kernel_rfl) ?_
      go_wp2
      go_ret2
      rw [HD.out]
      have hfin : Below w.heap.size w w4 := (below_on hw2 (below_on hb3 (below_drew _))).grown hg4 (by have := hw2.size; have := hb3.size; simp; omega) (fun k e => by cases e; have := hw2.size; omega)
      first
        | (rw [if_pos H12.out]; exact ⟨rfl, hfin⟩)
        | (rw [if_neg H12.out]; exact ⟨rfl, hfin⟩)
  · have hd : dayS l p k = (0, askedE l (isPlace l p && l.is k)) := by rw [dayS, if_pos h0]
    have hA := asked_err v l W2 (h.below hw2) 114 _ (enters_of Tryz.func114 (by kernel_rfl) rfl) _ hf h0
    obtain ⟨ev, hev⟩ : ∃ ev, askedE l (isPlace l p && l.is k) = ev := ⟨_, rfl⟩
    rw [hev] at hA h0 hd
    have hnb : (ev != 0) = true := by simp [h0]
    have HA := Lib.hid hA
    have HD := Lib.hid hd
    clear hf h0 hA hev hd
    go_enter Tryz.func52, Tryz.ntmps52
    go_wp2_with (go_at_call 113; refine HA.out.mono ?_; rintro e w3 ⟨rfl, hb3⟩)
    go_ret2
    rw [HD.out]
    exact ⟨rfl, below_on hw2 hb3⟩
end Go.Proofs.YtenfnakhijobkaaGreat
namespace Go.Proofs.YtenfnakhijobkaaGreat
open Go.RowKit Go.Proofs.YtenfnakhijobkaaGreatW.PrintLast
/-- The day after which a cake is dry for a sale. -/
def dayM (l : LoftD) (x : Int) : Int := if (dayS l l.put x).2 = 0 then (dayS l l.put x).1 else 9
def dryOf (m : MktD) (xs : List Int) : Int := xs.foldl (fun a x => max a (dayM m.loft x)) (-1)
def canS (m : MktD) (i k : Nat) : Bool := match m.chests[i]?, m.sales[k]? with
  | some c, some s => decide (dryOf m c.cakes < s.day)
  | _, _ => false
theorem canS_at {m : MktD} {i k : Nat} {c : ChestD} {s : SaleD} (hc : m.chests[i]? = some c) (hs : m.sales[k]? = some s) : canS m i k = decide (dryOf m c.cakes < s.day) := by rw [canS, hc, hs]
theorem dayM_bd {l : LoftD} (hl : LOk l) (x : Int) : 0 ≤ dayM l x ∧ dayM l x ≤ 12 := by
  unfold dayM
  split
  · unfold dayS
    split
    · omega
    · have := sureDay_bd hl (lexT l) ((gI l.put x).getD 0).toNat x.toNat
      split <;> simp <;> omega
  · omega
theorem dryOf_bd {m : MktD} (hl : LOk m.loft) : ∀ (xs : List Int) (a : Int), -1 ≤ a → a ≤ 12 → -1 ≤ xs.foldl (fun a x => max a (dayM m.loft x)) a ∧ xs.foldl (fun a x => max a (dayM m.loft x)) a ≤ 12
  | [], a, h1, h2 => ⟨h1, h2⟩
  | x :: xs, a, h1, h2 => by
    have := dayM_bd hl x
    exact dryOf_bd hl xs (max a (dayM m.loft x)) (by omega) (by omega)
/-- The map in block r says what can be sold, for the pairs that P lets in. -/
structure CanM (w : World) (r : Nat) (m : MktD) (P : Nat → Nat → Prop) : Prop where
  ex : ∃ (es : Array MapEntry) (clock : Nat), w.heap[r]? = some (.map es clock) ∧ (∀ e ∈ es.toList, ∃ i k : Nat, P i k ∧ e.key = spotV i k ∧ e.val = .bool (canS m i k)) ∧ ∀ i k : Nat, P i k → ∃ e ∈ es.toList, e.key = spotV i k
theorem CanM.block {w w' : World} {r : Nat} {m : MktD} {P : Nat → Nat → Prop} (h : CanM w r m P) (hb : w'.heap[r]? = w.heap[r]?) : CanM w' r m P := by
  obtain ⟨es, clock, hr, he⟩ := h.ex
  exact ⟨es, clock, hb.trans hr, he⟩
theorem CanM.lt {w : World} {r : Nat} {m : MktD} {P : Nat → Nat → Prop} (h : CanM w r m P) : r < w.heap.size := by
  obtain ⟨es, clock, hr, _⟩ := h.ex
  exact (Array.getElem?_eq_some_iff.1 hr).1
theorem CanM.lift {w w' : World} {r : Nat} {m : MktD} {P : Nat → Nat → Prop} (h : CanM w r m P) (hb : Below w.heap.size w w') : CanM w' r m P := h.block (hb.block r h.lt)
theorem CanM.grown {w w' : World} {r : Nat} {m : MktD} {P : Nat → Nat → Prop} {row : Option Nat} (h : CanM w r m P) (hg : w.grownBy w' row) (hne : row ≠ some r) : CanM w' r m P := h.block (hg.block r h.lt (fun e => hne e.symm))
theorem CanM.kept {w w' : World} {r : Nat} {m : MktD} {P : Nat → Nat → Prop} (h : CanM w r m P) (hg : w.grownBy w' (some r)) : Kept w w' := by
  obtain ⟨es, clock, hr, _⟩ := h.ex
  exact Kept.of_map hr hg
theorem CanM.mono {w : World} {r : Nat} {m : MktD} {P Q : Nat → Nat → Prop} (h : CanM w r m P) (hPQ : ∀ i k, P i k ↔ Q i k) : CanM w r m Q := by
  obtain ⟨es, clock, hr, h1, h2⟩ := h.ex
  exact ⟨es, clock, hr, fun e he => let ⟨i, k, a, b⟩ := h1 e he; ⟨i, k, (hPQ i k).1 a, b⟩, fun i k hq => h2 i k ((hPQ i k).2 hq)⟩
theorem CanM.keys {es : Array MapEntry} {m : MktD} {P : Nat → Nat → Prop} (h : ∀ e ∈ es.toList, ∃ i k : Nat, P i k ∧ e.key = spotV i k ∧ e.val = .bool (canS m i k)) : SpotKeys es.toList := fun e he => by
  obtain ⟨i, k, _, h1, _⟩ := h e he
  exact ⟨_, _, h1⟩
theorem CanM.look {w : World} {r : Nat} {m : MktD} {P : Nat → Nat → Prop} (h : CanM w r m P) {i k : Nat} (hp : P i k) : (Instr.lookup 142 (.map (some r)) (spotV i k) false).run Tryz.prog w = .ok (.bool (canS m i k)) w := by
  obtain ⟨es, clock, hr, h1, h2⟩ := h.ex
  obtain ⟨e0, he0, hk0⟩ := h2 i k hp
  rcases lookup_spotM i k r es clock w hr (CanM.keys h1) with ⟨j, e, hj, hek, hrun⟩ | ⟨hno, _⟩
  · obtain ⟨i', k', _, h3, h4⟩ := h1 e (List.mem_of_getElem? hj)
    rw [hek] at h3
    simp at h3
    obtain ⟨h3, h5⟩ := h3
    obtain rfl : i = i' := by omega
    obtain rfl : k = k' := by omega
    rw [hrun, h4]
  · exact absurd hk0 (hno e0 he0)
theorem CanM.store {w : World} {r : Nat} {m : MktD} {P : Nat → Nat → Prop} (h : CanM w r m P) {i k : Nat} (hp : ¬ P i k) :
    ∃ w2, (Instr.mapUpdate 142 (.map (some r)) (spotV i k) (.bool (canS m i k))).run Tryz.prog w = .ok () w2 ∧ CanM w2 r m (fun a b => P a b ∨ (a = i ∧ b = k)) ∧ w.grownBy w2 (some r) := by
  obtain ⟨es, clock, hr, h1, h2⟩ := h.ex
  have hno : ∀ e ∈ es.toList, e.key ≠ spotV i k := fun e he hk => by
    obtain ⟨i', k', h0, h3, _⟩ := h1 e he
    rw [hk] at h3
    simp at h3
    obtain ⟨h3, h5⟩ := h3
    obtain rfl : i = i' := by omega
    obtain rfl : k = k' := by omega
    exact hp h0
  have hrun := update_spotM i k (.bool (canS m i k)) r es clock w hr (CanM.keys h1) hno
  have hput := World.putObj_heap_same (w := w) (o := .map (es.push { key := spotV i k, val := .bool (canS m i k), born := clock }) (clock + 1)) (Array.getElem?_eq_some_iff.1 hr).1
  refine ⟨_, hrun, ⟨⟨es.push { key := spotV i k, val := .bool (canS m i k), born := clock }, clock + 1, hput, ?_, ?_⟩⟩, grownBy_putObj' w r _⟩
  · intro e he'
    simp at he'
    rcases he' with he' | rfl
    · obtain ⟨a, b, h3, h4⟩ := h1 e (by simpa using he')
      exact ⟨a, b, Or.inl h3, h4⟩
    · exact ⟨i, k, Or.inr ⟨rfl, rfl⟩, rfl, rfl⟩
  · rintro a b (hab | ⟨rfl, rfl⟩)
    · obtain ⟨e, he, hk⟩ := h2 a b hab
      exact ⟨e, by simp [List.mem_append]; left; simpa using he, hk⟩
    · exact ⟨_, by simp; exact Or.inr rfl, rfl⟩
theorem RdMkt.kept {w w' : World} {v : MktV} {m : MktD} (h : RdMkt w v m) (hk : Kept w w') : RdMkt w' v m :=
  ⟨h.loft.kept hk, h.sales.kept hk, ⟨h.chests.len, h.chests.small, fun j x hx => by
    obtain ⟨b, o, cs, ha, hlt, hl, ⟨s, e, hs⟩, hc⟩ := h.chests.cells j x hx
    exact ⟨b, o, cs, ha, Nat.lt_of_lt_of_le hlt hk.size, hl, ⟨s, e, hs.kept hk⟩, fun k v hv => hk.cell _ _ _ (hc k v hv)⟩⟩, h.step, h.lots, h.notes.kept hk⟩
abbrev prCs (l : List Int) : List Value := (arrP l).toList
/-- A market at work, in block B. -/
structure SaleWk (w : World) (B r : Nat) (v : MktV) (m : MktD) (s : Sl) : Prop where
  lt : B < w.heap.size
  cells : ∀ (i : Nat) (x : Value), v.cs[i]? = some x → w.cell? ⟨B, i, none⟩ = some x
  c11 : w.cell? ⟨B, 11, none⟩ = some (.map (some r))
  c12 : w.cell? ⟨B, 12, none⟩ = some (.slice s.a s.n s.c)
  mkt : RdMkt w v m
  ts : Rd (encR prCs) 4 w s (lexM m)
  can : CanM w r m (fun i k => i < m.chests.length ∧ k < m.sales.length)
theorem SaleWk.below {w w' : World} {B r : Nat} {v : MktV} {m : MktD} {s : Sl} (h : SaleWk w B r v m s) (hb : Below w.heap.size w w') : SaleWk w' B r v m s :=
  ⟨Nat.lt_of_lt_of_le h.lt hb.size, fun i x hx => Go.Proofs.YtenfnakhijobkaaGreat.lift hb (h.cells i x hx), Go.Proofs.YtenfnakhijobkaaGreat.lift hb h.c11, Go.Proofs.YtenfnakhijobkaaGreat.lift hb h.c12, h.mkt.below hb, h.ts.below (encR_mono _) hb, h.can.lift hb⟩
theorem pr_neq (f g : Nat → Int) (w : World) : (binOp .neq 167 (.agg (prC f)) (.agg (prC g))).run Tryz.prog w = .ok (.bool (!decide ((List.range 4).map f = (List.range 4).map g))) w := by
  have h : (Op.equalIn 10000 167 (.agg (prC f)) (.agg (prC g))).run Tryz.prog w = .ok (decide ((List.range 4).map f = (List.range 4).map g)) w :=
    arr_eq (n := 4) (by kernel_rfl) ((List.range 4).map f) ((List.range 4).map g) (by simp) (by simp) w
  rw [run_neq_struct, h]; rfl
theorem info167 : (Tryz.prog.info? 167).map (fun i => (i.zero, i.size, i.bytes)) = some (some (.agg #[.int .i64 0, .int .i64 0, .int .i64 0, .int .i64 0]), 4, 32) := by kernel_rfl
def okP (m : MktD) (l : List Int) : Bool := m.notes.all (nRight l)
def dnP (m : MktD) (pre : List (List Int)) : List (List Int) := pre.filter (okP m)
theorem dnP_snoc (m : MktD) (pre : List (List Int)) (x : List Int) : dnP m (pre ++ [x]) = dnP m pre ++ if okP m x then [x] else [] := by
  unfold dnP
  rw [List.filter_append]
  by_cases h : okP m x = true <;> simp [h]
theorem dnP_len (m : MktD) (pre : List (List Int)) : (dnP m pre).length ≤ pre.length := List.length_filter_le _ _
theorem lexM_dn (m : MktD) : lexM m = dnP m (enumP m.step none m.prs) := rfl
theorem rightF_nil {m : MktD} (hm : MOk m) (x : List Int) : rightF m [] (fun j => x.getD j 0) = okP m x := by
  unfold rightF okP
  rw [Bool.eq_iff_iff, List.all_eq_true, List.all_eq_true]
  have key : ∀ (i : Nat) (n : NoteD), m.notes[i]? = some n → noteF m [] (fun j => x.getD j 0) i = nRight x n := fun i n hn => by
    have hs := hm.notes n (List.mem_of_getElem? hn)
    simp only [noteF, List.any_nil, Bool.false_or, hn, nRight]
    rw [gI, if_pos hs.1, List.getD_eq_getElem?_getD]
  constructor
  · intro h n hn
    obtain ⟨i, hi⟩ := List.getElem?_of_mem hn
    rw [← key i n hi]
    exact h i (List.mem_range.2 (lt_of_at hi))
  · intro h i hi
    have hi := List.mem_range.1 hi
    have hn : m.notes[i]? = some m.notes[i] := List.getElem?_eq_getElem hi
    rw [key i _ hn]
    exact h _ (List.getElem_mem hi)
theorem enumP_sub {step : Int} : ∀ {rs : List Rg} {p : Option Int}, (enumP step p rs).length ≤ (enumL rs).length
  | [], p => by simp [enumP, enumL]
  | r :: rs, p => by
    unfold enumP enumL
    induction r.nums with
    | nil => simp
    | cons x xs ih =>
      rw [List.flatMap_cons, List.flatMap_cons, List.length_append, List.length_append]
      have : (if nearO step p x = true then (enumP step (some x) rs).map (x :: ·) else []).length ≤ ((enumL rs).map (x :: ·)).length := by
        split
        · rw [List.length_map, List.length_map]; exact enumP_sub
        · simp
      omega
theorem enumP_le {m : MktD} (hm : MOk m) : (enumP m.step none m.prs).length ≤ 2000 := by
  have hp : ∀ s ∈ m.sizes, 1 ≤ s := fun s hs => by
    obtain ⟨x, hx, rfl⟩ := List.mem_map.1 hs
    exact (hm.prices x hx).size_pos.1
  have hc := capMul_prod hp hm.many
  have h1 := enumL_len (rs := m.prs) (fun r hr => (hm.prsOk r hr).2.1)
  rw [show m.prs.map Rg.size = m.sizes from by simp [MktD.sizes, MktD.prs], ← hc] at h1
  have h2 := enumP_sub (step := m.step) (rs := m.prs) (p := none)
  have := hm.many
  omega
end Go.Proofs.YtenfnakhijobkaaGreat
