/- The best placement. Conditions: the loft reads as it does. The plain law of chests that are offered: when a chest is ready; markets without notes and weights, in which the cakes lie as in the best placement. Conditions: as stated. The statement of chests that are offered, walked. Conditions: the market reads as it does. Words for the second part of the statement of chests that are offered. Conditions: as stated. A struct's store into a block of the call's own: the block holds it. Conditions: the block is as large as the struct. The statement of chests that are offered, walked: markets that it speaks of. Conditions: the market reads as it does. The statement of chests that are offered, walked: whatever the market. Conditions: the market reads as it does. The statement TopOffered holds: whatever the arguments, the law returns true, and they read as they did. Conditions: none but the row's own. -/
import Derived.Test.YtenfnakhijobkaaGreatPb01
import Derived.Test.YtenfnakhijobkaaGreatPb03
import Derived.Test.YtenfnakhijobkaaGreatPb08
import Derived.Test.YtenfnakhijobkaaGreatPb09
import Derived.Test.YtenfnakhijobkaaGreatPb11
import Derived.Test.YtenfnakhijobkaaGreatPt01
import Derived.Laws.EntriesVeiled
import Derived.Laws.StructEq
import Derived.Laws.Tables
import Derived.ShutString
import Derived.ChangeOld
import Derived.Below
import Derived.SizedLaws
set_option linter.unusedVariables false
set_option linter.unusedSimpArgs false
namespace Go.Proofs.YtenfnakhijobkaaGreat
open Go.RowKit Go.Proofs.YtenfnakhijobkaaGreatW.PrintLast
/-- What place leaves. -/
def PlaceOut (res : Option (List Int)) (r : Nat) (l : LoftD) (w : World) (e : Ending) (w' : World) : Prop :=
  Memo w' r l (lexT l) ∧ w.grownBy w' (some r) ∧ match res with
    | some q => ∃ sq : Sl, e = .returned (.tuple #[.slice sq.a sq.n sq.c, .bool true]) ∧ RdInts w' sq q
    | none => ∃ sq : Sl, e = .returned (.tuple #[.slice sq.a sq.n sq.c, .bool false])
theorem Two.to_grown {r Bf : Nat} {W W' : World} (h : Two r Bf W W') (hBf : W.heap.size ≤ Bf) : W.grownBy W' (some r) :=
  ⟨h.os, h.tape, h.output, h.size, fun i hi hne => h.block i hi (fun e => hne (by rw [e])) (by omega)⟩
theorem RdInts.setBox {w : World} {Bf : Nat} {T : TypeId} {y s : Sl} {xs : List Int} (hb : Box w Bf #[.slice y.a y.n y.c] T) (h : RdInts w s xs) (u : Value) : RdInts (w.setCell ⟨Bf, 0, none⟩ u) s xs :=
  ⟨h.len, h.small, fun j x hx => by
    obtain ⟨b, o, cs, ha, hlt, hl, hr, hc⟩ := h.cells j x hx
    refine ⟨b, o, cs, ha, by rw [World.size_setCell]; exact hlt, hl, hr, fun k v hv => ?_⟩
    have hne : b ≠ Bf := fun e => by
      subst e
      have hcs : cs = [.int .i64 x] := hr
      have h0 := hc 0 (.int .i64 x) (by rw [hcs]; rfl)
      unfold World.cell? at h0
      simp only [hb.at_] at h0
      revert h0
      generalize o + j * 1 + 0 = m
      intro h0
      cases m <;> simp at h0
    exact lift_grown (grown_set (grown_rfl w _) u) (hc k v hv) (fun e => hne (by injection e with e; exact e.symm))⟩
set_option maxHeartbeats 4000000 in
set_option maxRecDepth 100000 in
theorem place_any (B r : Nat) (v : LoftV) (l : LoftD) (sl : Sl) (hl : LOk l) (day : Int) (w : World) (h : Wk w B r v l sl) :
    Calls Tryz.prog 119 #[.pointer (some ⟨B, 0, none⟩), .int .i64 day] w (PlaceOut (plF l day l.cakes.length []) r l w) := by
  obtain ⟨W0, hNW0, BX0, hW0, hzW0⟩ := Box.named w #[.pointer (some ⟨B, 0, none⟩)] 189
  obtain ⟨W1, hNW1, BX1, hW1, hzW1⟩ := Box.named W0 #[.int .i64 day] 3
  obtain ⟨W2, hNW2, BX2, hW2, hzW2⟩ := Box.named W1 #[.slice none 0 0] 25
  obtain ⟨W3, hNW3, BX3, hW3, hzW3⟩ := Box.named W2 #[.func (.func 153) #[] #[.pointer (some ⟨w.heap.size, 0, none⟩), .pointer (some ⟨W1.heap.size, 0, none⟩), .pointer (some ⟨W0.heap.size, 0, none⟩), .pointer (some ⟨W2.heap.size, 0, none⟩)]] 172
  have hw3 := below_on (below_on (below_on hW0 hW1) hW2) hW3
  have z0 : w.heap.size < W0.heap.size := by have := hzW0.out; omega
  have z1 : W0.heap.size < W1.heap.size := by have := hzW1.out; omega
  have z2 : W1.heap.size < W2.heap.size := by have := hzW2.out; omega
  have bw := (((BX0.lift hW1).lift hW2).lift hW3).cell 0 (.pointer (some ⟨B, 0, none⟩)) rfl
  have bd := ((BX1.lift hW2).lift hW3).cell 0 (.int .i64 day) rfl
  have bp := BX3.cell 0 (.func (.func 153) #[] #[.pointer (some ⟨w.heap.size, 0, none⟩), .pointer (some ⟨W1.heap.size, 0, none⟩), .pointer (some ⟨W0.heap.size, 0, none⟩), .pointer (some ⟨W2.heap.size, 0, none⟩)]) rfl
  have hin : PutIn w W3 B r W1.heap.size w.heap.size W0.heap.size W2.heap.size l day := ⟨Two.below hw3, h.mem.lift hw3, ⟨⟨none, 0, 0⟩, (BX2.lift hW3)⟩, bw, bd, bp⟩
  have hC := put_any w B r W1.heap.size w.heap.size W0.heap.size W2.heap.size v l sl h (by omega) hl day ⟨by omega, by omega, by omega⟩ l.cakes.length [] ⟨none, 0, 0⟩ W3 (by simp) hin (rd_nil _ _ _ _ _) (fun ad e => by cases e)
  have HC := Lib.hid hC
  have HT3 : Hid (Two r W1.heap.size w W3) := Two.below hw3
  have hBf : Hid (w.heap.size ≤ W1.heap.size) := by show _ ≤ _; omega
  clear hC hin bw bd
  cases hres : plF l day l.cakes.length [] with
  | none =>
    rw [hres] at HC
    clear hres
    go_enter Tryz.func119, Tryz.ntmps119
    go_wp2_with (go_at_call 153; refine HC.out.mono ?_; rintro e w5 ⟨hm5, ht5, rfl, sq, hb5⟩; have g0 := hb5.cell 0 (.slice sq.a sq.n sq.c) rfl; have g1 := hb5.free 0)
    have hT6 := (HT3.out.trans ht5).trans (Two.grown (grown_set (grown_rfl w5 (some W1.heap.size)) (k := 0) (.slice sq.a sq.n sq.c)) (fun k e => by cases e; omega))
    have g2 := (hb5.set 0 (.slice sq.a sq.n sq.c)).cell 0 (.slice sq.a sq.n sq.c) rfl
    refine bodyPost_ret (v := .tuple #[.slice sq.a sq.n sq.c, .bool false]) (by simp [results, Tryz.results119, go_sem, g2]) rfl ?_
    have hm6 : Memo (w5.setCell ⟨W1.heap.size, 0, none⟩ (.slice sq.a sq.n sq.c)) r l (lexT l) := hm5.grown (grown_set (grown_rfl w5 _) _) (fun e => by
      obtain ⟨es, clock, hr, _⟩ := hm5.ex
      have := hb5.at_
      injection e with e
      rw [e, hr] at this
      cases this)
    exact ⟨hm6, hT6.to_grown hBf.out, sq, rfl⟩
  | some q =>
    rw [hres] at HC
    clear hres
    go_enter Tryz.func119, Tryz.ntmps119
    go_wp2_with (go_at_call 153; refine HC.out.mono ?_; rintro e w5 ⟨hm5, ht5, rfl, sq, hb5, hrd5⟩; have g0 := hb5.cell 0 (.slice sq.a sq.n sq.c) rfl; have g1 := hb5.free 0)
    have hT6 := (HT3.out.trans ht5).trans (Two.grown (grown_set (grown_rfl w5 (some W1.heap.size)) (k := 0) (.slice sq.a sq.n sq.c)) (fun k e => by cases e; omega))
    have hb6 := hb5.set 0 (.slice sq.a sq.n sq.c)
    have g2 := hb6.cell 0 (.slice sq.a sq.n sq.c) rfl
    refine bodyPost_ret (v := .tuple #[.slice sq.a sq.n sq.c, .bool true]) (by simp [results, Tryz.results119, go_sem, g2]) rfl ?_
    have hm6 : Memo (w5.setCell ⟨W1.heap.size, 0, none⟩ (.slice sq.a sq.n sq.c)) r l (lexT l) := hm5.grown (grown_set (grown_rfl w5 _) _) (fun e => by
      obtain ⟨es, clock, hr, _⟩ := hm5.ex
      have := hb5.at_
      injection e with e
      rw [e, hr] at this
      cases this)
    exact ⟨hm6, hT6.to_grown hBf.out, sq, rfl, RdInts.setBox hb5 hrd5 _⟩
/-- The best placement: the day, and what is found. -/
def bestS (l : LoftD) : Option (Int × List Int) := (List.range l.air.length).findSome? fun d : Nat => (plF l (d : Int) l.cakes.length []).map fun q => ((d : Int), q)
def BestOut (l : LoftD) (w : World) (e : Ending) (w' : World) : Prop :=
  Below w.heap.size w w' ∧ ((askedE l true ≠ 0 ∧ e = .returned (.tuple #[.slice none 0 0, .int .i64 0, .int .i64 (askedE l true)])) ∨
    (askedE l true = 0 ∧ ((bestS l = none ∧ e = .returned (.tuple #[.slice none 0 0, .int .i64 0, .int .i64 10])) ∨
      ∃ (d : Int) (q : List Int) (s : Sl), bestS l = some (d, q) ∧ e = .returned (.tuple #[.slice s.a s.n s.c, .int .i64 d, .int .i64 0]) ∧ RdInts w' s q)))
set_option maxHeartbeats 4000000 in
set_option maxRecDepth 100000 in
theorem BestS_any (v : LoftV) (l : LoftD) (w : World) (h : RdLoft w v l) : Calls Tryz.prog 54 #[.agg v.cs] w (BestOut l w) := by
  obtain ⟨W0, hNW0, BX, hW0, hzW0⟩ := Box.named w v.cs 44
  have c0 := BX.cell 0 (.int .i64 v.last) rfl
  have c1 := BX.cell 1 (.slice v.air.a v.air.n v.air.c) rfl
  have c2 := BX.cell 2 (.slice v.shelves.a v.shelves.n v.shelves.c) rfl
  have c3 := BX.cell 3 (.slice v.cakes.a v.cakes.n v.cakes.c) rfl
  have c4 := BX.cell 4 (.slice v.put.a v.put.n v.put.c) rfl
  have c5 := BX.cell 5 (.slice v.weights.a v.weights.n v.weights.c) rfl
  have hf : LOk l → ∀ w', Below W0.heap.size W0 w' → Calls Tryz.prog 118 #[] w' fun e w'' => e = .returned (.bool true) ∧ Below w'.heap.size w' w'' := fun _ w' _ => (always_any w').mono fun e w'' hh => ⟨hh.1, hh.2 ▸ Below.refl _ _⟩
  by_cases h0 : askedE l true = 0
  · obtain ⟨hl, _, _⟩ := askedE_zero h0
    have hA := asked_ok v l W0 (h.below hW0) 118 _ (enters_of Tryz.func118 (by kernel_rfl) rfl) _ hf h0
    have HA := Lib.hid hA
    have H0 := Lib.hid h0
    obtain ⟨L, hL⟩ : ∃ L : Nat, v.last = (L : Int) := ⟨v.last.toNat, by have := hl.last0; have := h.last; omega⟩
    have hL6 : l.air.length = L + 1 := by have := h.last; have := hl.air; omega
    have hL5 : L ≤ 5 := by have := hl.last5; have := h.last; omega
    have HB : Hid (bestS l = (List.range (L + 1)).findSome? fun d : Nat => (plF l (d : Int) l.cakes.length []).map fun q => ((d : Int), q)) := by show _ = _; rw [bestS, hL6]
    have HP := Lib.hid fun w' B r sl (day : Int) (h' : Wk w' B r v l sl) => place_any B r v l sl hl day w' h'
    have HL := Lib.hid hL
    clear hf h0 hA hL6 hL
    go_enter Tryz.func54, Tryz.ntmps54
    go_wp2_with (go_at_call 113; refine HA.out.mono ?_; rintro e w3 ⟨B, r, sl, rfl, hwk, hr, hb3⟩; have f0 := lift hb3 c0; rw [HL.out] at f0)
    have hw3 := below_on hW0 hb3
    have HWK0 := Lib.hid hwk
    clear c0 c1 c2 c3 c4 c5 f0 hwk
    go_loopw [20] (fun i wr => ∃ k : Nat, k ≤ L + 1 ∧ i = .int .i64 k ∧ Hid (∀ q : Nat, q < k → plF l (q : Int) l.cakes.length [] = none) ∧ Hid (Wk wr B r v l sl) ∧ w3.grownBy wr (some r)) (fun i _ => L + 1 - (intOf i).toNat)
    case atStart => exact ⟨0, Nat.zero_le _, rfl, (fun q hq => absurd hq (Nat.not_lt_zero q)), HWK0.out, grown_rfl _ _⟩
    case round =>
      obtain ⟨k, hk, rfl, hq, HWK, hg⟩ := hrel
      by_cases hlt : k < L + 1
      · have hlt2 : (k : Int) < (L : Int) + 1 := by omega
        have hP := HP.out _ _ _ _ (k : Int) HWK.out
        cases hres : plF l (k : Int) l.cakes.length [] with
        | none =>
          rw [hres] at hP
          have HPP := Lib.hid hP
          have HRES := Lib.hid hres
          clear hP hres
          go_wp2_with (go_at_call 119; refine HPP.out.mono ?_; rintro e w4 ⟨hm4, hg4, sq, rfl⟩)
          go_roundw
          case measure => simp [intOf]; omega
          case rel => exact ⟨k + 1, by omega, by go_num, (fun q hq2 => by
            by_cases e : q = k
            · rw [e]; exact HRES.out
            · exact hq.out q (by omega)), HWK.out.sure hm4 hg4, grown_trans hg hg4⟩
        | some q =>
          rw [hres] at hP
          have HPP := Lib.hid hP
          have HE : Hid (bestS l = some ((k : Int), q)) := by
            show _ = _
            rw [HB.out, findSome_some hlt (by rw [hres]; rfl) (fun j hj => by rw [hq.out j hj]; rfl)]
          clear hP hres
          go_wp2_with (go_at_call 119; refine HPP.out.mono ?_; rintro e w4 ⟨hm4, hg4, sq, rfl, hrd⟩)
          go_ret3
          exact ⟨hw3.grown (grown_trans hg hg4) hw3.size (fun k e => by cases e; have := hW0.size; omega), Or.inr ⟨H0.out, Or.inr ⟨_, q, sq, HE.out, rfl, hrd⟩⟩⟩
      · obtain rfl : k = L + 1 := by omega
        have hlt2 : ¬ ((L + 1 : Nat) : Int) < (L : Int) + 1 := by omega
        have hlt3 : ¬ (L : Int) + 1 < (L : Int) + 1 := by omega
        have HE : Hid (bestS l = none) := by show _ = _; rw [HB.out, findSome_none (fun j hj => by rw [hq.out j hj]; rfl)]
        go_wp2
        go_ret3
        exact ⟨hw3.grown hg hw3.size (fun k e => by cases e; have := hW0.size; omega), Or.inr ⟨H0.out, Or.inl ⟨HE.out, rfl⟩⟩⟩
  · have hA := asked_err v l W0 (h.below hW0) 118 _ (enters_of Tryz.func118 (by kernel_rfl) rfl) _ hf h0
    obtain ⟨ev, hev⟩ : ∃ ev, askedE l true = ev := ⟨_, rfl⟩
    have HEV := Lib.hid hev
    rw [hev] at hA h0
    have hnb : (ev != 0) = true := by simp [h0]
    have HA := Lib.hid hA
    have H0 := Lib.hid h0
    clear hf h0 hA hev
    go_enter Tryz.func54, Tryz.ntmps54
    go_wp2_with (go_at_call 113; refine HA.out.mono ?_; rintro e w3 ⟨rfl, hb3⟩)
    go_ret3
    exact ⟨below_on hW0 hb3, Or.inl ⟨by rw [HEV.out]; exact H0.out, by rw [HEV.out]; rfl⟩⟩
end Go.Proofs.YtenfnakhijobkaaGreat
namespace Go.Proofs.YtenfnakhijobkaaGreat
/-! ### The first sale behind a day -/
theorem afterS_some {ss : List SaleD} {d : Int} {k : Nat} (hk : k < ss.length) (h1 : d < ss[k].day) (h2 : ∀ (j : Nat) (x : SaleD), j < k → ss[j]? = some x → x.day ≤ d) : afterS ss d = k := by
  have : ss.findIdx? (fun s => decide (d < s.day)) = some k := by
    rw [List.findIdx?_eq_some_iff_getElem]
    refine ⟨hk, by simpa using h1, fun j hj => ?_⟩
    have := h2 j ss[j] hj (List.getElem?_eq_getElem (by omega))
    simp; omega
  rw [afterS, this]
theorem afterS_none {ss : List SaleD} {d : Int} (h : ∀ x ∈ ss, x.day ≤ d) : afterS ss d = -1 := by
  have : ss.findIdx? (fun s => decide (d < s.day)) = none := by
    rw [List.findIdx?_eq_none_iff]
    intro x hx
    have := h x hx
    simp; omega
  rw [afterS, this]
theorem afterS_cases (ss : List SaleD) (d : Int) : (afterS ss d = -1 ∧ ∀ x ∈ ss, x.day ≤ d) ∨ ∃ (k : Nat) (x : SaleD), afterS ss d = k ∧ ss[k]? = some x ∧ d < x.day ∧ ∀ (j : Nat) (y : SaleD), j < k → ss[j]? = some y → y.day ≤ d := by
  unfold afterS
  cases hf : ss.findIdx? (fun s => decide (d < s.day)) with
  | none =>
    left
    refine ⟨rfl, fun x hx => ?_⟩
    have := List.findIdx?_eq_none_iff.1 hf x hx
    simp at this; omega
  | some k =>
    right
    obtain ⟨hk, h1, h2⟩ := List.findIdx?_eq_some_iff_getElem.1 hf
    refine ⟨k, ss[k], rfl, List.getElem?_eq_getElem hk, by simpa using h1, fun j y hj hy => ?_⟩
    obtain ⟨hjl, rfl⟩ := List.getElem?_eq_some_iff.1 hy
    have := h2 j hj
    simp at this; omega
/-! ### When a chest is ready -/
def lastOf (l : LoftD) (p : List Int) (xs : List Int) : Int := xs.foldl (fun a x => max a (dayS l p x).1) (-1)
def dryAll (l : LoftD) (p : List Int) (xs : List Int) : Bool := xs.all fun x => (dayS l p x).2 == 0
theorem fold_ge {f : Int → Int} : ∀ (xs : List Int) (a : Int), a ≤ xs.foldl (fun a x => max a (f x)) a
  | [], a => Int.le_refl _
  | x :: xs, a => by have := fold_ge (f := f) xs (max a (f x)); rw [List.foldl_cons]; omega
theorem fold_mem {f : Int → Int} : ∀ (xs : List Int) (a x : Int), x ∈ xs → f x ≤ xs.foldl (fun a x => max a (f x)) a
  | y :: xs, a, x, h => by
    rw [List.foldl_cons]
    rcases List.mem_cons.1 h with rfl | h
    · have := fold_ge (f := f) xs (max a (f x)); omega
    · exact fold_mem xs _ x h
theorem fold_le {f : Int → Int} {d : Int} : ∀ (xs : List Int) (a : Int), a ≤ d → (∀ x ∈ xs, f x ≤ d) → xs.foldl (fun a x => max a (f x)) a ≤ d
  | [], a, h, _ => h
  | x :: xs, a, h, hx => by
    rw [List.foldl_cons]
    have := hx x (by simp)
    exact fold_le xs _ (by omega) fun y hy => hx y (by simp [hy])
theorem fold_congr {f g : Int → Int} : ∀ (xs : List Int) (a : Int), (∀ x ∈ xs, f x = g x) → xs.foldl (fun a x => max a (f x)) a = xs.foldl (fun a x => max a (g x)) a
  | [], a, _ => rfl
  | x :: xs, a, h => by rw [List.foldl_cons, List.foldl_cons, h x (by simp)]; exact fold_congr xs _ fun y hy => h y (by simp [hy])
theorem MOk.days {m : MktD} (hm : MOk m) : ∀ s ∈ m.sales, s.day ≤ 9 := by
  intro s hs
  have h := hm.sales
  obtain ⟨k, hk⟩ := List.getElem?_of_mem hs
  have h1 : salesLast (m.sales.take (k + 1)) ≠ none := fun e => by rw [salesLast_none e] at h; cases h
  rw [salesLast_at hk] at h1
  cases h2 : salesLast (m.sales.take k) with
  | none => rw [h2] at h1; exact absurd rfl h1
  | some q =>
    rw [h2] at h1
    simp only [saleStep, Option.bind_some] at h1
    split at h1
    · rename_i h3
      rw [Bool.and_eq_true, inB_iff] at h3
      omega
    · exact absurd rfl h1
/-- What the statement says of a chest. -/
def chestTop (m : MktD) (i : Nat) (c : ChestD) : Prop :=
  ((readyS m i).2 = 0 → dryAll m.loft m.loft.put c.cakes = true ∧ (readyS m i).1 = afterS m.sales (lastOf m.loft m.loft.put c.cakes)) ∧
  ((readyS m i).2 ≠ 0 → (readyS m i).2 = 10 ∧ ¬ (dryAll m.loft m.loft.put c.cakes = true ∧ 0 ≤ afterS m.sales (lastOf m.loft m.loft.put c.cakes)))
theorem readyS_some {m : MktD} (hf : mktFault m = 0) {i : Nat} {c : ChestD} (hc : m.chests[i]? = some c) {k : Nat} {s : SaleD} (hs : m.sales[k]? = some s) (h1 : dryOf m c.cakes < s.day) (h2 : ∀ (j : Nat) (x : SaleD), j < k → m.sales[j]? = some x → x.day ≤ dryOf m c.cakes) : readyS m i = ((k : Int), 0) := by
  have hi := lt_of_at hc
  have his : m.is i = true := by rw [MktD.is, inB_iff]; omega
  rw [readyS, if_neg (by simp [hf]), if_neg (by simp [his]), Int.toNat_natCast, find_some_of (lt_of_at hs) (by rw [canS_at hc hs]; simpa using h1) (fun j hj => by
    have hjl : j < m.sales.length := by have := lt_of_at hs; omega
    rw [canS_at hc (List.getElem?_eq_getElem hjl)]
    have := h2 j _ hj (List.getElem?_eq_getElem hjl)
    simp; omega)]
theorem readyS_none {m : MktD} (hf : mktFault m = 0) {i : Nat} {c : ChestD} (hc : m.chests[i]? = some c) (h : ∀ x ∈ m.sales, x.day ≤ dryOf m c.cakes) : readyS m i = (0, 10) := by
  have hi := lt_of_at hc
  have his : m.is i = true := by rw [MktD.is, inB_iff]; omega
  rw [readyS, if_neg (by simp [hf]), if_neg (by simp [his]), Int.toNat_natCast, find_none_of (fun j hj => by
    rw [canS_at hc (List.getElem?_eq_getElem hj)]
    have := h _ (List.getElem_mem hj)
    simp; omega)]
theorem chestTop_ok {m : MktD} (hf : mktFault m = 0) {i : Nat} {c : ChestD} (hc : m.chests[i]? = some c) : chestTop m i c := by
  have hm := MOk.of hf
  unfold chestTop
  cases hd : dryAll m.loft m.loft.put c.cakes with
  | true =>
    have he : dryOf m c.cakes = lastOf m.loft m.loft.put c.cakes := by
      refine fold_congr _ _ fun x hx => ?_
      rw [dryAll, List.all_eq_true] at hd
      have := hd x hx
      rw [dayM, if_pos (by simpa using this)]
    rcases afterS_cases m.sales (lastOf m.loft m.loft.put c.cakes) with ⟨h1, h2⟩ | ⟨k, x, h1, h2, h3, h4⟩
    · rw [readyS_none hf hc (by rw [he]; exact h2), h1]
      refine ⟨fun e => by simp at e, fun _ => ⟨rfl, by simp⟩⟩
    · rw [readyS_some hf hc h2 (by rw [he]; exact h3) (by rw [he]; exact h4), h1]
      refine ⟨fun _ => ⟨rfl, rfl⟩, fun e => by simp at e⟩
  | false =>
    obtain ⟨x, hx, hx2⟩ := List.all_eq_false.1 hd
    have h9 : 9 ≤ dryOf m c.cakes := by
      have h1 := fold_mem (f := dayM m.loft) c.cakes (-1) x hx
      rw [dayM, if_neg (by simpa using hx2)] at h1
      exact h1
    rw [readyS_none hf hc (fun s hs => by have := hm.days s hs; omega)]
    refine ⟨fun e => by simp at e, fun _ => ⟨rfl, by simp⟩⟩
/-! ### Placements that are found -/
structure PlOk (l : LoftD) (day : Int) (q : List Int) : Prop where
  at_ : ∀ (i : Nat) (x : Int), q[i]? = some x → ∃ s : Nat, x = s ∧ s < l.shelves.length ∧ cnt (q.take i) s < roomOf l s ∧ goodDay l (lexT l) s i ≤ day
theorem plF_ok {l : LoftD} {day : Int} : ∀ (n : Nat) (p q : List Int), plF l day n p = some q → PlOk l day p → PlOk l day q ∧ q.length = p.length + n
  | 0, p, q, h, hp => by
    simp only [plF, Option.some.injEq] at h
    subst h
    exact ⟨hp, rfl⟩
  | n + 1, p, q, h, hp => by
    simp only [plF] at h
    obtain ⟨s, hs, h2⟩ := List.exists_of_findSome?_eq_some h
    have hsl := List.mem_range.1 hs
    split at h2
    · rename_i hok
      have h3 := plF_ok n _ _ h2 ⟨fun i x hx => by
        rcases Nat.lt_trichotomy i p.length with hi | hi | hi
        · rw [List.getElem?_append_left hi] at hx
          obtain ⟨t, h1, h2, h3, h4⟩ := hp.at_ i x hx
          refine ⟨t, h1, h2, ?_, h4⟩
          rwa [List.take_append_of_le_length (by omega)]
        · subst hi
          rw [List.getElem?_append_right (Nat.le_refl _)] at hx
          simp at hx
          subst hx
          simp only [okS, Bool.and_eq_true, decide_eq_true_eq] at hok
          refine ⟨s, rfl, hsl, ?_, hok.2⟩
          rw [List.take_append_of_le_length (Nat.le_refl _), List.take_length]
          exact hok.1
        · rw [List.getElem?_append_right (by omega), List.getElem?_eq_none (by simp; omega)] at hx
          cases hx⟩
      refine ⟨h3.1, ?_⟩
      rw [h3.2]
      simp; omega
    · cases h2
/-- How many are equal to one, in all: where each one is let in, the last one was. -/
theorem cnt_room {q : List Int} {s : Int} {r : Int} (h : ∀ i, q[i]? = some s → cnt (q.take i) s < r) (h0 : 0 ≤ r) : cnt q s ≤ r := by
  have key : ∀ k, k ≤ q.length → cnt (q.take k) s ≤ r := by
    intro k
    induction k with
    | zero => intro _; simp [cnt]; exact h0
    | succ k ih =>
      intro hk
      have hx : q[k]? = some q[k] := List.getElem?_eq_getElem (by omega)
      rw [cnt_take s hx]
      by_cases e : q[k] = s
      · have := h k (by rw [hx, e])
        rw [if_pos e]; omega
      · rw [if_neg e]
        have := ih (by omega)
        omega
  have := key q.length (Nat.le_refl _)
  rwa [List.take_length] at this
theorem PlOk.isPlace {l : LoftD} {day : Int} {q : List Int} (h : PlOk l day q) (hq : q.length = l.cakes.length) : isPlace l q = true := by
  simp only [Go.Proofs.YtenfnakhijobkaaGreat.isPlace, Bool.and_eq_true, decide_eq_true_eq, List.all_eq_true]
  refine ⟨hq, fun x hx => ?_⟩
  obtain ⟨i, hi⟩ := List.getElem?_of_mem hx
  obtain ⟨s, rfl, h2, h3, h4⟩ := h.at_ i x hi
  simp only [placeOk, Bool.and_eq_true, inB_iff, decide_eq_true_eq]
  refine ⟨by omega, cnt_room (fun j hj => ?_) (by have := cnt_nonneg (q.take i) s; omega)⟩
  obtain ⟨t, h5, h6, h7, h8⟩ := h.at_ j s hj
  obtain rfl : s = t := by omega
  exact h7
theorem bestS_ok {l : LoftD} {d : Int} {q : List Int} (h : bestS l = some (d, q)) : 0 ≤ d ∧ d < l.air.length ∧ PlOk l d q ∧ q.length = l.cakes.length := by
  obtain ⟨n, hn, h2⟩ := List.exists_of_findSome?_eq_some h
  cases h3 : plF l (n : Int) l.cakes.length [] with
  | none => rw [h3] at h2; cases h2
  | some p =>
    rw [h3] at h2
    simp only [Option.map_some, Option.some.injEq, Prod.mk.injEq] at h2
    obtain ⟨rfl, rfl⟩ := h2
    have h4 := plF_ok _ _ _ h3 ⟨fun i x hx => by simp at hx⟩
    have := List.mem_range.1 hn
    exact ⟨by omega, by omega, h4.1, by simpa using h4.2⟩
/-! ### The second part's markets -/
def LoftD.bare (l : LoftD) : LoftD := { l with weights := [] }
def MktD.bare (m : MktD) : MktD := { m with loft := m.loft.bare, notes := [] }
def LoftD.lain (l : LoftD) (p : List Int) : LoftD := { l with weights := [], put := p }
def oneP (s : SaleD) : SaleD := { s with price := ⟨s.price.lo, s.price.lo⟩ }
def MktD.at1 (m : MktD) (p : List Int) (k : Nat) (s : SaleD) : MktD := { m with loft := m.loft.lain p, notes := [], lots := 4, sales := m.sales.set k (oneP s) }
theorem loftFault_of {l : LoftD} (hl : LOk l) {p : List Int} (hp : isPlace l p = true) : loftFault (l.lain p) = 0 := by
  have hp' : isPlace (l.lain p) (l.lain p).put = true := hp
  unfold loftFault
  have h1 := hl.shelves3
  have h2 := hl.cakes5
  have h3 := hl.last5
  have h4 := hl.last0
  have h5 := hl.air
  rw [if_neg (by simp [LoftD.lain]; omega), if_neg (by simp [LoftD.lain]; omega)]
  rw [if_neg (by
    rw [Bool.not_eq_false, List.all_eq_true]
    intro r hr
    exact Rg.upTo_iff.2 (hl.airs r hr))]
  rw [if_neg (by
    rw [Bool.not_eq_false, List.all_eq_true]
    intro b hb
    have := hl.shelves b hb
    simp only [BoardD.ok, Bool.and_eq_true, inB_iff]
    omega)]
  rw [if_neg (by
    rw [Bool.not_eq_false, List.all_eq_true]
    intro c hc
    have := hl.cakes c hc
    simp only [LoftD.cakeOk, LoftD.lain, Bool.and_eq_true, inB_iff, Rg.upTo_iff]
    omega)]
  rw [if_neg (by rw [hp']; simp), if_neg (by simp [LoftD.lain])]
  rw [if_neg (by have := hl.many; simpa [LoftD.sizes, LoftD.lain] using this)]
theorem bare_lain (l : LoftD) : l.bare = l.lain l.put := rfl
theorem enumL_ne : ∀ {rs : List Rg}, (∀ r ∈ rs, r.lo ≤ r.hi) → enumL rs ≠ []
  | rs, h => fun e => by
    have h1 := enumL_len h
    rw [e] at h1
    have h2 : 1 ≤ prodL (rs.map Rg.size) := prodL_pos fun s hs => by
      obtain ⟨r, hr, rfl⟩ := List.mem_map.1 hs
      have := h r hr
      unfold Rg.size; omega
    simp at h1
    omega
theorem lexT_bare (l : LoftD) (p : List Int) : lexT (l.lain p) = (enumL l.rs).map (mkT l) := by
  unfold lexT
  have h : ∀ t ∈ (enumL (l.lain p).rs).map (mkT (l.lain p)), tOk (l.lain p) t = true := fun _ _ => rfl
  rw [List.filter_eq_self.2 h]
  rfl
theorem lexT_bare_ne {l : LoftD} (hl : LOk l) (p : List Int) : lexT (l.lain p) ≠ [] := by
  rw [lexT_bare]
  intro e
  exact enumL_ne (fun r hr => (hl.rsOk r hr).2.1) (List.map_eq_nil_iff.1 e)
theorem askedE_bare {l : LoftD} (hl : LOk l) : askedE l.bare true = 0 := by
  rw [askedE, bare_lain, if_neg (by simp [loftFault_of hl hl.put]), if_neg (by simp), if_neg (lexT_bare_ne hl _)]
theorem truthsR_ne {l : LoftD} (hl : LOk l) (h : lexT l ≠ []) : (truthsR l).isEmpty = false := by
  cases h2 : truthsR l with
  | cons a b => rfl
  | nil =>
    exfalso
    obtain ⟨t, ht⟩ := List.exists_mem_of_ne_nil _ h
    have := (mem_lexT hl).1 ht
    rw [h2] at this
    cases this
theorem fold_set {s s' : SaleD} (hd : s'.day = s.day) (hu : s'.price.upTo 20 = s.price.upTo 20) : ∀ {l : List SaleD} {k : Nat} {a : Option Int}, l[k]? = some s → (l.set k s').foldl saleStep a = l.foldl saleStep a
  | [], k, a, h => by simp at h
  | x :: l, 0, a, h => by
    simp at h
    subst h
    simp only [List.set_cons_zero, List.foldl_cons]
    congr 1
    simp only [saleStep, hd, hu]
  | x :: l, k + 1, a, h => by
    simp only [List.set_cons_succ, List.foldl_cons]
    exact fold_set (l := l) hd hu (by simpa using h)
theorem prodL_set : ∀ {ss : List Int} {k : Nat}, (∀ s ∈ ss, 1 ≤ s) → prodL (ss.set k 1) ≤ prodL ss ∧ ∀ s ∈ ss.set k 1, 1 ≤ s
  | [], k, _ => by simp
  | s :: ss, 0, h => by
    have h1 := h s (by simp)
    have h2 := prodL_pos (ss := ss) fun q hq => h q (by simp [hq])
    simp only [List.set_cons_zero, prodL]
    refine ⟨Int.mul_le_mul_of_nonneg_right h1 (by omega), fun q hq => ?_⟩
    rcases List.mem_cons.1 hq with rfl | hq
    · omega
    · exact h q (by simp [hq])
  | s :: ss, k + 1, h => by
    have h1 := h s (by simp)
    have ih := prodL_set (ss := ss) (k := k) fun q hq => h q (by simp [hq])
    simp only [List.set_cons_succ, prodL]
    refine ⟨Int.mul_le_mul_of_nonneg_left ih.1 (by omega), fun q hq => ?_⟩
    rcases List.mem_cons.1 hq with rfl | hq
    · exact h1
    · exact ih.2 q hq
theorem mktFault_at1 {m : MktD} (hm : MOk m) {p : List Int} (hp : isPlace m.loft p = true) {k : Nat} {s : SaleD} (hs : m.sales[k]? = some s) : mktFault (m.at1 p k s) = 0 := by
  have hl := hm.loft
  have h1 : loftFault (m.at1 p k s).loft = 0 := loftFault_of hl hp
  have h2 : (truthsR (m.at1 p k s).loft).isEmpty = false := truthsR_ne (LOk.of h1) (lexT_bare_ne hl p)
  have h3 := hm.s4
  have h4 := hm.c4
  have hpr := hm.prices s (List.mem_of_getElem? hs)
  unfold PrOk at hpr
  have h5 : salesOk (m.sales.set k (oneP s)) = true := by
    rw [salesOk, salesLast, fold_set (l := m.sales) (s := s) (s' := oneP s) rfl (by
      have : s.price.upTo 20 = true := Rg.upTo_iff.2 hpr
      rw [this]
      exact Rg.upTo_iff.2 (by simp [oneP]; omega)) hs]
    exact hm.sales
  have h6 : mktArgs (m.at1 p k s) = true := by
    simp only [mktArgs, MktD.at1, LoftD.lain, Bool.and_eq_true, decide_eq_true_eq, h5]
    have := hm.step
    refine ⟨⟨⟨⟨⟨inB_iff.2 this, by decide⟩, trivial⟩, List.all_eq_true.2 hm.chests⟩, decide_eq_true hm.apart⟩, rfl⟩
  have h7 : capMul 3000 (m.at1 p k s).sizes ≤ 2000 := by
    have hpos : ∀ s ∈ m.sizes, 1 ≤ s := fun s hs => by
      obtain ⟨x, hx, rfl⟩ := List.mem_map.1 hs
      exact (hm.prices x hx).size_pos.1
    have e : (m.at1 p k s).sizes = m.sizes.set k 1 := by
      simp only [MktD.sizes, MktD.at1, List.map_set]
      congr 1
      simp [oneP, Rg.size]
    have h8 := prodL_set (ss := m.sizes) (k := k) hpos
    have h9 := capMul_prod hpos hm.many
    have h10 := capFold_eq (cap := 3000) (by omega) _ 1 (by omega) (by omega) h8.2
    have h11 := hm.many
    rw [e, capMul, h10]
    omega
  unfold mktFault
  rw [if_neg (by simp [h1]), if_neg (by simp [h2]), if_neg (by simp [MktD.at1]; omega), if_neg (by simp [h6]), if_neg (by omega)]
/-- The sure days, by the placement that is found. -/
theorem dayM_at1 {l : LoftD} (hl : LOk l) {d : Int} {q : List Int} (hb : bestS l.bare = some (d, q)) {x : Int} (hx : l.is x = true) : dayM (l.lain q) x ≤ d := by
  obtain ⟨h0, h1, h2, h3⟩ := bestS_ok hb
  have hq : isPlace l q = true := h2.isPlace h3
  rw [LoftD.is, inB_iff] at hx
  obtain ⟨k, rfl⟩ := Int.eq_ofNat_of_zero_le hx.1
  have hk : k < l.cakes.length := by omega
  have hkq : k < q.length := by rw [h3]; exact hk
  obtain ⟨s, h4, h5, h6, h7⟩ := h2.at_ k q[k] (List.getElem?_eq_getElem hkq)
  have hT : lexT l.bare = lexT (l.lain q) := by rw [bare_lain, lexT_bare, lexT_bare]
  have hg : goodDay l.bare (lexT l.bare) s k = goodDay (l.lain q) (lexT (l.lain q)) s k := by rw [hT]; rfl
  rw [hg] at h7
  have hck : (l.lain q).cakes[k]? = some l.cakes[k] := List.getElem?_eq_getElem hk
  have hd6 : d < 12 := by
    have := hl.air
    have := hl.last5
    have : (l.bare.air.length : Int) = l.air.length := rfl
    omega
  rw [goodDay, hck] at h7
  simp only at h7
  have h8 : sureDay (l.lain q) (lexT (l.lain q)) s k ≤ d := by
    split at h7
    · exact h7
    · omega
  have e1 : ((gI q (k : Int)).getD 0).toNat = s := by rw [gI_nat, List.getElem?_eq_getElem hkq]; simp [h4]
  have hok : (isPlace (l.lain q) q && (l.lain q).is k) = true := by
    rw [Bool.and_eq_true]
    exact ⟨hq, inB_iff.2 (by simp [LoftD.lain]; omega)⟩
  have he : askedE (l.lain q) true = 0 := by rw [askedE, if_neg (by simp [loftFault_of hl hq]), if_neg (by simp), if_neg (lexT_bare_ne hl _)]
  have hds : dayS (l.lain q) (l.lain q).put (k : Int) = (sureDay (l.lain q) (lexT (l.lain q)) s k, 0) := by
    show dayS (l.lain q) q (k : Int) = _
    rw [dayS, hok, if_neg (by simp [he]), e1, Int.toNat_natCast, if_neg (by omega)]
  rw [dayM, hds, if_pos rfl]
  exact h8
theorem MOk.cakeIs {m : MktD} (hm : MOk m) {c : ChestD} (hc : c ∈ m.chests) : ∀ x ∈ c.cakes, m.loft.is x = true := by
  intro x hx
  have h := hm.chests c hc
  simp only [chestOk, Bool.and_eq_true] at h
  obtain ⟨k, hk⟩ := List.getElem?_of_mem hx
  have h1 : cakesLast m.loft.cakes.length (c.cakes.take (k + 1)) ≠ none := fun e => by rw [cakesLast_none e] at h; cases h.1
  rw [cakesLast_at hk] at h1
  cases h2 : cakesLast m.loft.cakes.length (c.cakes.take k) with
  | none => rw [h2] at h1; exact absurd rfl h1
  | some q =>
    rw [h2] at h1
    have h4 := (cLast_ge h2).1
    simp only [cakeStep, Option.bind_some] at h1
    split at h1
    · rename_i h3
      rw [inB_iff] at h3
      rw [LoftD.is, inB_iff]
      omega
    · exact absurd rfl h1
/-- What the second part's plan brings: how many cakes are sold. -/
def manyTo (cs : List ChestD) (price : Int) (k : Nat) : Int := (cs.take k).foldl (fun a c => if c.reserve ≤ price then a + c.cakes.length else a) 0
theorem manyTo_succ {cs : List ChestD} {price : Int} {k : Nat} {c : ChestD} (h : cs[k]? = some c) : manyTo cs price (k + 1) = if c.reserve ≤ price then manyTo cs price k + c.cakes.length else manyTo cs price k := by
  unfold manyTo
  rw [take_foldl _ _ h]
/-- What holds of the second part's market. -/
structure TopTwo (m : MktD) (q : List Int) (k : Nat) (s : SaleD) : Prop where
  fault : mktFault (m.at1 q k s) = 0
  ready : ∀ i, i < m.chests.length → (readyS (m.at1 q k s) i).2 = 0 ∧ (readyS (m.at1 q k s) i).1 ≤ k
  brings : (brS (m.at1 q k s) (List.replicate m.chests.length (k : Int)) = (⟨0, 0⟩, 11) ∧ pricesR (m.at1 q k s) = []) ∨
    brS (m.at1 q k s) (List.replicate m.chests.length (k : Int)) = (⟨s.price.lo * manyTo m.chests s.price.lo m.chests.length, s.price.lo * manyTo m.chests s.price.lo m.chests.length⟩, 0)
theorem bndL_const {c : Int} : ∀ {xs : List Int}, xs ≠ [] → (∀ x ∈ xs, x = c) → bndL xs = ⟨c, c⟩
  | [], h, _ => absurd rfl h
  | a :: xs, _, h => by
    have key : ∀ (xs : List Int), (∀ x ∈ xs, x = c) → xs.foldl Rg.wider ⟨c, c⟩ = ⟨c, c⟩ := by
      intro xs
      induction xs with
      | nil => intro _; rfl
      | cons x xs ih =>
        intro h
        rw [List.foldl_cons, h x (by simp)]
        have : Rg.wider ⟨c, c⟩ c = ⟨c, c⟩ := by simp [Rg.wider]
        rw [this]
        exact ih fun y hy => h y (by simp [hy])
    rw [bndL, h a (by simp)]
    exact key xs fun x hx => h x (by simp [hx])
theorem getD_replicate {n i : Nat} {x : Int} (h : i < n) : (List.replicate n x).getD i 0 = x := by
  rw [List.getD_eq_getElem?_getD, List.getElem?_replicate, if_pos h]; rfl
theorem topTwo {m : MktD} (hf : mktFault m = 0) {d : Int} {q : List Int} (hb : bestS m.loft.bare = some (d, q)) {k : Nat} {s : SaleD} (hs : m.sales[k]? = some s) (hk : d < s.day) : TopTwo m q k s := by
  have hm := MOk.of hf
  have hl := hm.loft
  obtain ⟨h0, h1, h2, h3⟩ := bestS_ok hb
  have hq : isPlace m.loft q = true := h2.isPlace h3
  have hF := mktFault_at1 hm hq hs
  have hM := MOk.of hF
  have hkl := lt_of_at hs
  have hs' : (m.at1 q k s).sales[k]? = some (oneP s) := by show (m.sales.set k (oneP s))[k]? = _; rw [List.getElem?_set_self hkl]
  have hdry : ∀ c ∈ m.chests, dryOf (m.at1 q k s) c.cakes < (oneP s).day := fun c hc => by
    have : dryOf (m.at1 q k s) c.cakes ≤ d := fold_le _ _ (by omega) fun x hx => dayM_at1 hl hb (hm.cakeIs hc x hx)
    show _ < s.day
    omega
  have hcan : ∀ (i : Nat) (c : ChestD), m.chests[i]? = some c → canS (m.at1 q k s) i k = true := fun i c hc => by
    rw [canS_at (m := m.at1 q k s) hc hs']
    simpa using hdry c (List.mem_of_getElem? hc)
  refine ⟨hF, fun i hi => ?_, ?_⟩
  · have hc : (m.at1 q k s).chests[i]? = some m.chests[i] := List.getElem?_eq_getElem hi
    have his : (m.at1 q k s).is i = true := by rw [MktD.is, inB_iff]; simp [MktD.at1]; omega
    rw [readyS, if_neg (by simp [hF]), if_neg (by simp [his]), Int.toNat_natCast]
    cases hfd : (List.range (m.at1 q k s).sales.length).find? (canS (m.at1 q k s) i) with
    | none =>
      have := List.find?_range_eq_none.1 hfd k (lt_of_at hs')
      rw [hcan i _ hc] at this
      cases this
    | some j =>
      obtain ⟨_, _, h5⟩ := List.find?_range_eq_some.1 hfd
      refine ⟨rfl, ?_⟩
      show (j : Int) ≤ k
      by_cases hjk : j ≤ k
      · omega
      · have := h5 k (by omega)
        rw [hcan i _ hc] at this
        cases this
  · have hplan : isPlanS (m.at1 q k s) (List.replicate m.chests.length (k : Int)) = true := by
      simp only [isPlanS, Bool.and_eq_true, decide_eq_true_eq, List.all_eq_true]
      refine ⟨by simp [MktD.at1], fun x hx => ?_⟩
      rw [(List.mem_replicate.1 hx).2, inSales, inB_iff]
      have := lt_of_at hs'
      omega
    have hposs : possS (m.at1 q k s) (List.replicate m.chests.length (k : Int)) = true := by
      rw [possS, List.all_eq_true]
      intro i hi
      have hi := List.mem_range.1 hi
      rw [List.length_replicate] at hi
      have hg := getD_replicate (x := (k : Int)) hi
      rw [posAt, hg, Bool.or_eq_true, Bool.and_eq_true]
      right
      refine ⟨?_, by rw [Int.toNat_natCast]; exact hcan i _ (List.getElem?_eq_getElem hi)⟩
      rw [decide_eq_true_eq]
      have h6 := cnt_le ((List.replicate m.chests.length (k : Int)).take (i + 1)) k
      have h7 := hm.c4
      rw [List.length_take, List.length_replicate] at h6
      show _ ≤ (4 : Int)
      omega
    have hoff : offS (m.at1 q k s) (List.replicate m.chests.length (k : Int)) = 0 := by rw [offS, if_neg (by simp [hplan]), if_neg (by simp [hposs])]
    by_cases hnil : lexM (m.at1 q k s) = []
    · left
      have ha : askM (m.at1 q k s) (List.replicate m.chests.length (k : Int)) = 11 := by rw [askM, if_neg (by simp [hF]), if_neg (by simp [hoff]), if_pos hnil]
      refine ⟨by rw [brS, ha, if_pos (by decide)], ?_⟩
      cases h8 : pricesR (m.at1 q k s) with
      | nil => rfl
      | cons a b =>
        have := (lexM_iff hM (l := a)).2 (by rw [h8]; simp)
        rw [hnil] at this
        cases this
    · right
      have ha : askM (m.at1 q k s) (List.replicate m.chests.length (k : Int)) = 0 := by rw [askM, if_neg (by simp [hF]), if_neg (by simp [hoff]), if_neg hnil]
      rw [brS, ha, if_neg (by decide)]
      congr 1
      refine bndL_const (by simpa using hnil) fun x hx => ?_
      obtain ⟨l, hl2, rfl⟩ := List.mem_map.1 hx
      rw [mem_lexM, isTruth, Bool.and_eq_true, arePrices_iff] at hl2
      obtain ⟨y, hy, hy1, hy2⟩ := hl2.1.1.at (i := k) (r := ⟨s.price.lo, s.price.lo⟩) (by simp only [MktD.prs, List.getElem?_map, hs']; rfl)
      have hyl : l.getD k 0 = s.price.lo := by rw [List.getD_eq_getElem?_getD, hy]; simp at hy1 hy2 ⊢; omega
      have key : ∀ n, n ≤ m.chests.length → sumTo (m.at1 q k s) (fun j => l.getD j 0) (List.replicate m.chests.length (k : Int)) n = s.price.lo * manyTo m.chests s.price.lo n := by
        intro n
        induction n with
        | zero => intro _; simp [sumTo, manyTo]
        | succ n ih =>
          intro hn
          have hc : (m.at1 q k s).chests[n]? = some (m.chests[n]'(by omega)) := List.getElem?_eq_getElem (show n < m.chests.length by omega)
          rw [sumTo, ih (by omega), manyTo_succ (List.getElem?_eq_getElem (by omega)), getD_replicate (by omega), termS, soldF, hc]
          simp only [Int.toNat_natCast, hyl]
          have h9 : ((k : Int) == -1) = false := by simp
          rw [h9]
          by_cases hr : (m.chests[n]'(by omega)).reserve ≤ s.price.lo
          · simp [hr, Int.mul_add]
          · simp [hr]
      have h10 := key m.chests.length (Nat.le_refl _)
      rw [brQ, sumS, List.length_replicate]
      exact h10
end Go.Proofs.YtenfnakhijobkaaGreat
namespace Go.Proofs.YtenfnakhijobkaaGreat
open Go.RowKit Go.Proofs.YtenfnakhijobkaaGreatW.PrintLast
theorem thin_small {m : MktD} (h : m.thin = true) : SmallM m := by
  simp only [MktD.thin, Bool.and_eq_true, decide_eq_true_eq, List.all_eq_true] at h
  obtain ⟨⟨⟨⟨⟨h1, h2⟩, h3⟩, h4⟩, h5⟩, _⟩ := h
  have := thin_size h1
  exact ⟨⟨by omega, by omega, by omega, by omega, by omega⟩, by omega, by omega, by omega, fun c hc => by have := h5 c hc; omega⟩
def TopOut (w : World) (e : Ending) (w' : World) : Prop := e = .returned (.bool true) ∧ Below w.heap.size w w'
set_option maxHeartbeats 4000000 in
set_option maxRecDepth 100000 in
theorem TopA (v : MktV) (m : MktD) (w : World) (h : RdMkt w v m) (hno : ¬ (m.thin = true ∧ mktFault m = 0 ∧ m.chests.length ≠ 0)) : Calls Tryz.prog 8 #[.agg v.cs] w (TopOut w) := by
  obtain ⟨W0, hNW0, BX, hW0, hzW0⟩ := Box.named w v.cs 33
  have h0 := h.below hW0
  have c0 := BX.cell 0 (.int .i64 v.loft.last) rfl
  have c1 := BX.cell 1 (.slice v.loft.air.a v.loft.air.n v.loft.air.c) rfl
  have c2 := BX.cell 2 (.slice v.loft.shelves.a v.loft.shelves.n v.loft.shelves.c) rfl
  have c3 := BX.cell 3 (.slice v.loft.cakes.a v.loft.cakes.n v.loft.cakes.c) rfl
  have c4 := BX.cell 4 (.slice v.loft.put.a v.loft.put.n v.loft.put.c) rfl
  have c5 := BX.cell 5 (.slice v.loft.weights.a v.loft.weights.n v.loft.weights.c) rfl
  have c6 := BX.cell 6 (.slice v.sales.a v.sales.n v.sales.c) rfl
  have c7 := BX.cell 7 (.slice v.chests.a v.chests.n v.chests.c) rfl
  have c8 := BX.cell 8 (.int .i64 v.step) rfl
  have c9 := BX.cell 9 (.int .i64 v.lots) rfl
  have c10 := BX.cell 10 (.slice v.notes.a v.notes.n v.notes.c) rfl
  have HLc : Hid (m.chests.length = v.chests.n) := h.chests.len
  cases hT : m.thin
  · go_enter Tryz.func8, Tryz.ntmps8
    go_wp2_with (first
      | (go_at_call 23; refine (call_b (Thin10_any v m _ h0) hT).mono ?_; rintro e w1 ⟨rfl, hb1⟩)
      | (go_at_call 50; refine (offered_ok _).mono ?_; rintro e w2 ⟨rfl, hb2⟩))
    go_ret
    exact ⟨rfl, below_on (below_on hW0 hb1) hb2⟩
  · by_cases hF : mktFault m = 0
    · have hn : m.chests.length = 0 := by
        by_cases e : m.chests.length = 0
        · exact e
        · exact absurd ⟨hT, hF, e⟩ hno
      have hn0 : v.chests.n = 0 := by have := HLc.out; omega
      have HC7 : Hid (W0.cell? ⟨w.heap.size, 7, none⟩ = some (.slice v.chests.a 0 v.chests.c)) := by show _ = _; rw [c7, hn0]
      clear hn0 hn
      go_enter Tryz.func8, Tryz.ntmps8
      go_wp2_with (first
        | (go_at_call 23; refine (call_b (Thin10_any v m _ h0) hT).mono ?_; rintro e w1 ⟨rfl, hb1⟩; have d0 := (BX.lift hb1).cell 0 (.int .i64 v.loft.last) rfl; have d1 := (BX.lift hb1).cell 1 (.slice v.loft.air.a v.loft.air.n v.loft.air.c) rfl; have d2 := (BX.lift hb1).cell 2 (.slice v.loft.shelves.a v.loft.shelves.n v.loft.shelves.c) rfl; have d3 := (BX.lift hb1).cell 3 (.slice v.loft.cakes.a v.loft.cakes.n v.loft.cakes.c) rfl; have d4 := (BX.lift hb1).cell 4 (.slice v.loft.put.a v.loft.put.n v.loft.put.c) rfl; have d5 := (BX.lift hb1).cell 5 (.slice v.loft.weights.a v.loft.weights.n v.loft.weights.c) rfl; have d6 := (BX.lift hb1).cell 6 (.slice v.sales.a v.sales.n v.sales.c) rfl; have d7 := (BX.lift hb1).cell 7 (.slice v.chests.a v.chests.n v.chests.c) rfl; have d8 := (BX.lift hb1).cell 8 (.int .i64 v.step) rfl; have d9 := (BX.lift hb1).cell 9 (.int .i64 v.lots) rfl; have d10 := (BX.lift hb1).cell 10 (.slice v.notes.a v.notes.n v.notes.c) rfl)
        | (go_at_call 49; refine (call_val (Fault10_any v m _ (h0.below hb1)) (u := .int .i64 0) (by rw [hF])).mono ?_; rintro e w2 ⟨rfl, hb2⟩; have g7 := lift hb2 (lift hb1 HC7.out))
        | (go_at_call 50; refine (offered_ok _).mono ?_; rintro e w3 ⟨rfl, hb3⟩))
      go_ret
      exact ⟨rfl, below_on (below_on (below_on hW0 hb1) hb2) hb3⟩
    · obtain ⟨f, hff⟩ : ∃ f, mktFault m = f := ⟨_, rfl⟩
      rw [hff] at hF
      have hnb : (f != 0) = true := by simp [hF]
      go_enter Tryz.func8, Tryz.ntmps8
      go_wp2_with (first
        | (go_at_call 23; refine (call_b (Thin10_any v m _ h0) hT).mono ?_; rintro e w1 ⟨rfl, hb1⟩; have d0 := (BX.lift hb1).cell 0 (.int .i64 v.loft.last) rfl; have d1 := (BX.lift hb1).cell 1 (.slice v.loft.air.a v.loft.air.n v.loft.air.c) rfl; have d2 := (BX.lift hb1).cell 2 (.slice v.loft.shelves.a v.loft.shelves.n v.loft.shelves.c) rfl; have d3 := (BX.lift hb1).cell 3 (.slice v.loft.cakes.a v.loft.cakes.n v.loft.cakes.c) rfl; have d4 := (BX.lift hb1).cell 4 (.slice v.loft.put.a v.loft.put.n v.loft.put.c) rfl; have d5 := (BX.lift hb1).cell 5 (.slice v.loft.weights.a v.loft.weights.n v.loft.weights.c) rfl; have d6 := (BX.lift hb1).cell 6 (.slice v.sales.a v.sales.n v.sales.c) rfl; have d7 := (BX.lift hb1).cell 7 (.slice v.chests.a v.chests.n v.chests.c) rfl; have d8 := (BX.lift hb1).cell 8 (.int .i64 v.step) rfl; have d9 := (BX.lift hb1).cell 9 (.int .i64 v.lots) rfl; have d10 := (BX.lift hb1).cell 10 (.slice v.notes.a v.notes.n v.notes.c) rfl)
        | (go_at_call 49; refine (call_val (Fault10_any v m _ (h0.below hb1)) (u := .int .i64 f) (by rw [hff])).mono ?_; rintro e w2 ⟨rfl, hb2⟩)
        | (go_at_call 50; refine (offered_ok _).mono ?_; rintro e w3 ⟨rfl, hb3⟩))
      go_ret
      exact ⟨rfl, below_on (below_on (below_on hW0 hb1) hb2) hb3⟩
end Go.Proofs.YtenfnakhijobkaaGreat
namespace Go.Proofs.YtenfnakhijobkaaGreat
open Go.RowKit
theorem rg63_eq (a b c d : Int) (w : World) : (Op.equal 63 (.agg #[.int .i64 a, .int .i64 b]) (.agg #[.int .i64 c, .int .i64 d])).run Tryz.prog w = .ok (a == c && b == d) w := by
  have u3 := Tryz.underlying3
  have a3 := Tryz.isAgg3
  have z3 := Tryz.sizeOf3
  have hS : Tryz.prog.underlying 63 = some (.struct (Tryz.prog.fieldsOf 63)) := by kernel_rfl
  have hp : Tryz.prog.stoodInHeld 63 = false := by kernel_rfl
  unfold Op.equal Op.maxDepth
  rw [show (10000 : Nat) = 9999 + 1 from rfl, run_equalIn_agg w 9999 63 _ _ hS hp]
  simp only [Program.fieldsOf, Tryz.underlying63]
  go_simp
  by_cases h1 : a = c <;> by_cases h2 : b = d <;> simp [h1, h2]
theorem rg63_eql (a b c d : Int) (w : World) : (binOp .eql 63 (.agg #[.int .i64 a, .int .i64 b]) (.agg #[.int .i64 c, .int .i64 d])).run Tryz.prog w = .ok (.bool (a == c && b == d)) w := by
  have h := rg63_eq a b c d w
  unfold binOp
  simp [h]
theorem info93 : (Tryz.prog.info? 93).map (fun i => (i.zero, i.size, i.bytes)) = some (some (.agg #[.int .i64 0, .int .i64 0, .int .i64 0]), 3, 24) := by kernel_rfl
def at1V (v : MktV) (sq ss : Sl) : MktV := ⟨⟨v.loft.last, v.loft.air, v.loft.shelves, v.loft.cakes, sq, ⟨none, 0, 0⟩⟩, ss, v.chests, v.step, 4, ⟨none, 0, 0⟩⟩
theorem rd_at1 {W : World} {v : MktV} {m : MktD} {q : List Int} {k : Nat} {s : SaleD} {sq ss : Sl} (h : RdMkt W v m) (hq : RdInts W sq q) (hs : Rd (encR SaleD.cs) 3 W ss (m.sales.set k (oneP s))) : RdMkt W (at1V v sq ss) (m.at1 q k s) :=
  ⟨⟨h.loft.last, h.loft.air, h.loft.shelves, h.loft.cakes, hq, rd_nil0 _ _ _ _ _⟩, hs, h.chests, h.step, rfl, rd_nil0 _ _ _ _ _⟩
theorem small_at1 {m : MktD} (h : SmallM m) {q : List Int} (hq : q.length ≤ 100) (k : Nat) (s : SaleD) : SmallM (m.at1 q k s) :=
  ⟨⟨h.loft.air, h.loft.shelves, h.loft.cakes, hq, by simp [MktD.at1, LoftD.lain]⟩, by simpa [MktD.at1] using h.sales, h.chests, by simp [MktD.at1], h.cakes⟩
theorem manyTo_bd {cs : List ChestD} {p : Int} (h : ∀ c ∈ cs, c.cakes.length ≤ 5) : ∀ k : Nat, k ≤ cs.length → 0 ≤ manyTo cs p k ∧ manyTo cs p k ≤ 5 * k
  | 0, _ => by simp [manyTo]
  | k + 1, hk => by
    have ih := manyTo_bd (p := p) h k (by omega)
    have hc := h cs[k] (List.getElem_mem (by omega))
    rw [manyTo_succ (List.getElem?_eq_getElem (by omega))]
    split <;> omega
/-- The numbers of a list that is made, and filled from its begin. -/
def fillC (n j : Nat) (x : Int) : Array Value := (List.replicate j (Value.int .i64 x) ++ List.replicate (n - j) (Value.int .i64 0)).toArray
theorem fillC_zero (n : Nat) (x : Int) : fillC n 0 x = (List.replicate n (Value.int .i64 0)).toArray := by simp [fillC]
theorem fillC_at {n j : Nat} (h : j < n) (x : Int) : (fillC n j x)[j]? = some (.int .i64 0) := by
  simp only [fillC, List.getElem?_toArray]
  rw [List.getElem?_append_right (by simp), List.getElem?_replicate, if_pos (by simp; omega)]
theorem fillC_set {n j : Nat} (h : j < n) (x : Int) : (fillC n j x).setIfInBounds j (.int .i64 x) = fillC n (j + 1) x := by
  simp only [fillC, List.setIfInBounds_toArray]
  congr 1
  apply List.ext_getElem?
  intro i
  rw [List.getElem?_set]
  by_cases e : j = i
  · subst e
    rw [if_pos rfl, if_pos (by simp; omega), List.getElem?_append_left (by simp), List.getElem?_replicate, if_pos (by omega)]
  · rw [if_neg e]
    by_cases hi : i < j
    · rw [List.getElem?_append_left (by simp; omega), List.getElem?_append_left (by simp; omega), List.getElem?_replicate, List.getElem?_replicate, if_pos hi, if_pos (by omega)]
    · rw [List.getElem?_append_right (by simp; omega), List.getElem?_append_right (by simp; omega), List.getElem?_replicate, List.getElem?_replicate, List.length_replicate, List.length_replicate]
      by_cases h2 : i < n
      · rw [if_pos (by omega), if_pos (by omega)]
      · rw [if_neg (by omega), if_neg (by omega)]
theorem fillC_full (n : Nat) (x : Int) : (fillC n n x).toList = (List.replicate n x).flatMap fun x : Int => [Value.int .i64 x] := by
  simp only [fillC, Nat.sub_self, List.replicate_zero, List.append_nil]
  induction n with
  | zero => rfl
  | succ n ih => rw [List.replicate_succ, List.replicate_succ, List.flatMap_cons, ← ih]; rfl
theorem made_box {w : World} {base g n : Nat} {z : Value} (hz : z.cells = #[.int .i64 0]) (h : w.ownsRow base 3 1 (.slice (some ⟨g, 0, none⟩) n n) n (madeCells z.cells (n * 1)).toList) : Box w g (fillC n 0 0) 3 := by
  rcases h.2 with ⟨h1, _⟩ | ⟨g', cap, cur, h1, h2, h3, h4, h5, h6, h7⟩
  · cases h1
  · injection h1 with h1 _ hc
    cases h1
    subst hc
    refine ⟨?_⟩
    rw [h3]
    congr 2
    have h8 : cur.toList = (madeCells z.cells (n * 1)).toList := by rw [← h7, List.take_of_length_le (by simp [h6])]
    apply Array.toList_inj.1
    rw [h8, hz, fillC_zero]
    apply List.ext_getElem?
    intro i
    simp only [madeCells, Nat.mul_one]
    simp only [Array.toList_map, Array.toList_range, List.getElem?_map, List.getElem?_replicate]
    by_cases hi : i < n
    · simp [hi, Nat.mod_one]
    · simp [hi]
theorem fillC_zero' (n : Nat) (x : Int) : fillC n 0 0 = fillC n 0 x := by rw [fillC_zero, fillC_zero]
theorem q_len {m : MktD} (hm : MOk m) {d : Int} {q : List Int} (hb : bestS m.loft.bare = some (d, q)) : q.length ≤ 5 := by
  have h1 := (bestS_ok hb).2.2.2
  have h2 := hm.loft.cakes5
  have : m.loft.bare.cakes.length = m.loft.cakes.length := rfl
  omega
end Go.Proofs.YtenfnakhijobkaaGreat
namespace Go.Proofs.YtenfnakhijobkaaGreat
open Go.RowKit
variable {P : Program}
theorem setRow_grown (w : World) (g : Nat) (cs : Array Value) : w.grownBy (w.setRow g cs) (some g) ∧ (w.setRow g cs).heap.size = w.heap.size := by
  refine ⟨⟨rfl, rfl, rfl, ?_, fun i hi hne => ?_⟩, ?_⟩
  · simp [World.setRow]
  · simp only [World.setRow, Array.getElem?_modify]
    rw [if_neg (by rintro rfl; exact hne rfl)]
  · simp [World.setRow]
theorem wpList_store_box {ops : Array Oper} {rest : List Oper} {o : Oper} {a : Act} {w : World} {Q : Exit → Act → World → Prop} (hgd : o.guard = none) (ty : TypeId) (x y : Operand) (ho : o.op = .store ty x y)
    (g : Nat) (cs old : Array Value) (T : TypeId) (hx : a.eval x = .pointer (some ⟨g, 0, none⟩)) (hy : a.eval y = .agg cs) (hB : Box w g old T) (hi : (P.info? ty).map (·.size) = some cs.size) (hold : old.size = cs.size) (h1 : cs.toList.all (·.oneCell') = true)
    (h : ∀ w', Box w' g cs T → w.grownBy w' (some g) → w'.heap.size = w.heap.size → wpList P ops Q rest (a.put o.dst undef) w') : wpList P ops Q (o :: rest) a w :=
  wpList_store_row hgd ty x y ho g cs hx hy T old hB.at_ hi hold (by simpa using h1) (h _ ⟨setRow_heap w g old cs T (0, 0) hB.at_⟩ (setRow_grown w g cs).1 (setRow_grown w g cs).2)
end Go.Proofs.YtenfnakhijobkaaGreat
namespace Go.Proofs.YtenfnakhijobkaaGreat
open Go.RowKit Go.Proofs.YtenfnakhijobkaaGreatW.PrintLast
theorem lastOf_at {l : LoftD} {p xs : List Int} {k : Nat} {x : Int} (h : xs[k]? = some x) : lastOf l p (xs.take (k + 1)) = max (lastOf l p (xs.take k)) (dayS l p x).1 := by
  unfold lastOf
  rw [take_foldl _ _ h]
theorem dryAll_at {l : LoftD} {p xs : List Int} {k : Nat} {x : Int} (h : xs[k]? = some x) : dryAll l p (xs.take (k + 1)) = (dryAll l p (xs.take k) && ((dayS l p x).2 == 0)) := by
  unfold dryAll
  rw [take_all _ h]
def bareV (v : MktV) : MktV := ⟨⟨v.loft.last, v.loft.air, v.loft.shelves, v.loft.cakes, v.loft.put, ⟨none, 0, 0⟩⟩, v.sales, v.chests, v.step, v.lots, ⟨none, 0, 0⟩⟩
theorem rd_bare {W : World} {v : MktV} {m : MktD} (h : RdMkt W v m) : RdMkt W (bareV v) m.bare :=
  ⟨⟨h.loft.last, h.loft.air, h.loft.shelves, h.loft.cakes, h.loft.put, rd_nil0 _ _ _ _ _⟩, h.sales, h.chests, h.step, h.lots, rd_nil0 _ _ _ _ _⟩
theorem small_bare {m : MktD} (h : SmallM m) : SmallL m.loft.bare := ⟨h.loft.air, h.loft.shelves, h.loft.cakes, h.loft.put, by simp [LoftD.bare]⟩
/-- The best placement of a loft without weights: there is none, or it is found. -/
theorem best_none {v : LoftV} {l : LoftD} (hl : LOk l) (hb : bestS l.bare = none) (w : World) (h : RdLoft w v l.bare) :
    Calls Tryz.prog 54 #[.agg v.cs] w fun e w' => e = .returned (.tuple #[.slice none 0 0, .int .i64 0, .int .i64 10]) ∧ Below w.heap.size w w' := by
  refine (BestS_any v l.bare w h).mono ?_
  rintro e w' ⟨h1, (⟨h2, _⟩ | ⟨_, (⟨_, h3⟩ | ⟨d, q, s, h4, _⟩)⟩)⟩
  · exact absurd (askedE_bare hl) h2
  · exact ⟨h3, h1⟩
  · rw [hb] at h4; cases h4
theorem best_some {v : LoftV} {l : LoftD} (hl : LOk l) {d : Int} {q : List Int} (hb : bestS l.bare = some (d, q)) (w : World) (h : RdLoft w v l.bare) :
    Calls Tryz.prog 54 #[.agg v.cs] w fun e w' => (∃ s : Sl, e = .returned (.tuple #[.slice s.a s.n s.c, .int .i64 d, .int .i64 0]) ∧ RdInts w' s q) ∧ Below w.heap.size w w' := by
  refine (BestS_any v l.bare w h).mono ?_
  rintro e w' ⟨h1, (⟨h2, _⟩ | ⟨_, (⟨h3, _⟩ | ⟨d', q', s, h4, h5, h6⟩)⟩)⟩
  · exact absurd (askedE_bare hl) h2
  · rw [hb] at h3; cases h3
  · rw [hb] at h4
    cases h4
    exact ⟨⟨s, h5, h6⟩, h1⟩
set_option maxHeartbeats 8000000 in
set_option maxRecDepth 100000 in
theorem TopB (v : MktV) (m : MktD) (w : World) (h : RdMkt w v m) (hT : m.thin = true) (hF : mktFault m = 0) (hne : m.chests.length ≠ 0) : Calls Tryz.prog 8 #[.agg v.cs] w (TopOut w) := by
  obtain ⟨W0, hNW0, BX, hW0, hzW0⟩ := Box.named w v.cs 33
  have h0 := h.below hW0
  have c0 := BX.cell 0 (.int .i64 v.loft.last) rfl
  have c1 := BX.cell 1 (.slice v.loft.air.a v.loft.air.n v.loft.air.c) rfl
  have c2 := BX.cell 2 (.slice v.loft.shelves.a v.loft.shelves.n v.loft.shelves.c) rfl
  have c3 := BX.cell 3 (.slice v.loft.cakes.a v.loft.cakes.n v.loft.cakes.c) rfl
  have c4 := BX.cell 4 (.slice v.loft.put.a v.loft.put.n v.loft.put.c) rfl
  have c5 := BX.cell 5 (.slice v.loft.weights.a v.loft.weights.n v.loft.weights.c) rfl
  have c6 := BX.cell 6 (.slice v.sales.a v.sales.n v.sales.c) rfl
  have c7 := BX.cell 7 (.slice v.chests.a v.chests.n v.chests.c) rfl
  have c8 := BX.cell 8 (.int .i64 v.step) rfl
  have c9 := BX.cell 9 (.int .i64 v.lots) rfl
  have c10 := BX.cell 10 (.slice v.notes.a v.notes.n v.notes.c) rfl
  have HLc : Hid (m.chests.length = v.chests.n) := h.chests.len
  have hn : ((v.chests.n : Int) == 0) = false := by have := HLc.out; simp; omega
  have hcn : v.chests.n ≤ 281474976710656 := by have := h.chests.small; omega
  have HS := Lib.hid (thin_small hT)
  have HFA := Lib.hid hF
  have HT := Lib.hid hT
  clear hF hne hT
  go_enter Tryz.func8, Tryz.ntmps8
  go_wp2_with (first | (go_at_call 23; refine (call_b (Thin10_any v m _ h0) HT.out).mono ?_; rintro e w1 ⟨rfl, hb1⟩; have d0 := (BX.lift hb1).cell 0 (.int .i64 v.loft.last) rfl; have d1 := (BX.lift hb1).cell 1 (.slice v.loft.air.a v.loft.air.n v.loft.air.c) rfl; have d2 := (BX.lift hb1).cell 2 (.slice v.loft.shelves.a v.loft.shelves.n v.loft.shelves.c) rfl; have d3 := (BX.lift hb1).cell 3 (.slice v.loft.cakes.a v.loft.cakes.n v.loft.cakes.c) rfl; have d4 := (BX.lift hb1).cell 4 (.slice v.loft.put.a v.loft.put.n v.loft.put.c) rfl; have d5 := (BX.lift hb1).cell 5 (.slice v.loft.weights.a v.loft.weights.n v.loft.weights.c) rfl; have d6 := (BX.lift hb1).cell 6 (.slice v.sales.a v.sales.n v.sales.c) rfl; have d7 := (BX.lift hb1).cell 7 (.slice v.chests.a v.chests.n v.chests.c) rfl; have d8 := (BX.lift hb1).cell 8 (.int .i64 v.step) rfl; have d9 := (BX.lift hb1).cell 9 (.int .i64 v.lots) rfl; have d10 := (BX.lift hb1).cell 10 (.slice v.notes.a v.notes.n v.notes.c) rfl) | (go_at_call 49; refine (call_val (Fault10_any v m _ (h0.below hb1)) (u := .int .i64 0) (by rw [HFA.out])).mono ?_; rintro e w2 ⟨rfl, hb2⟩; clear d0 d1 d2 d3 d4 d5 d6 d7 d8 d9 d10 c0 c1 c2 c3 c4 c5 c6 c7 c8 c9 c10; have BX2 := (BX.lift hb1).lift hb2; have g0 := BX2.cell 0 (.int .i64 v.loft.last) rfl; have g1 := BX2.cell 1 (.slice v.loft.air.a v.loft.air.n v.loft.air.c) rfl; have g2 := BX2.cell 2 (.slice v.loft.shelves.a v.loft.shelves.n v.loft.shelves.c) rfl; have g3 := BX2.cell 3 (.slice v.loft.cakes.a v.loft.cakes.n v.loft.cakes.c) rfl; have g4 := BX2.cell 4 (.slice v.loft.put.a v.loft.put.n v.loft.put.c) rfl; have g5 := BX2.cell 5 (.slice v.loft.weights.a v.loft.weights.n v.loft.weights.c) rfl; have g7 := BX2.cell 7 (.slice v.chests.a v.chests.n v.chests.c) rfl) | (go_at_call 51; refine (LoftS_any v.loft m.loft _ ((h0.below hb1).below hb2).loft HS.out.loft).mono ?_; rintro e w3 ⟨lv, rfl, hfr, hb3⟩; obtain ⟨W4, hNW4, B4, hW4, hzW4⟩ := Box.named w3 #[.int .i64 0, .slice none 0 0, .slice none 0 0, .slice none 0 0, .slice none 0 0, .slice none 0 0] 44; have r0 := B4.cell 0 (.int .i64 0) rfl; have r1 := B4.cell 1 (.slice none 0 0) rfl; have r2 := B4.cell 2 (.slice none 0 0) rfl; have r3 := B4.cell 3 (.slice none 0 0) rfl; have r4 := B4.cell 4 (.slice none 0 0) rfl; have r5 := B4.cell 5 (.slice none 0 0) rfl; have f0 := B4.free 0; have f1 := B4.free 1; have f2 := B4.free 2; have f3 := B4.free 3; have f4 := B4.free 4; have f5 := B4.free 5))
  obtain ⟨W5, hW5⟩ : ∃ W5, ((((((W4.setCell ⟨w3.heap.size, 0, none⟩ (.int .i64 lv.last)).setCell ⟨w3.heap.size, 1, none⟩ (.slice lv.air.a lv.air.n lv.air.c)).setCell ⟨w3.heap.size, 2, none⟩ (.slice lv.shelves.a lv.shelves.n lv.shelves.c)).setCell ⟨w3.heap.size, 3, none⟩ (.slice lv.cakes.a lv.cakes.n lv.cakes.c)).setCell ⟨w3.heap.size, 4, none⟩ (.slice lv.put.a lv.put.n lv.put.c)).setCell ⟨w3.heap.size, 5, none⟩ (.slice lv.weights.a lv.weights.n lv.weights.c)) = W5 := ⟨_, rfl⟩
  rw [hW5]
  have hg35 : Below w3.heap.size w3 W5 := by
    rw [← hW5]
    exact below_set (below_set (below_set (below_set (below_set (below_set hW4 (Nat.le_refl _) _) (Nat.le_refl _) _) (Nat.le_refl _) _) (Nat.le_refl _) _) (Nat.le_refl _) _) (Nat.le_refl _) _
  have B5 : Box W5 w3.heap.size lv.cs 44 := by
    rw [← hW5]
    exact ((((((B4.set 0 _).set 1 _).set 2 _).set 3 _).set 4 _).set 5 _)
  have hL5 : RdLoft W5 lv m.loft := hfr.now.below hg35
  have hw2 := below_on (below_on hW0 hb1) hb2
  have hw5 := below_on (below_on hw2 hb3) hg35
  have BX5 := (BX2.lift hb3).lift hg35
  have h5 := h.below hw5
  clear hW5 r0 r1 r2 r3 r4 r5 f0 f1 f2 f3 f4 f5 B4 hW4 hzW4 hNW4 hNW0 g0 g1 g2 g3 g4 g5 g7 hg35 hfr BX2 BX h0
  go_loopw [4] (fun i wr => ∃ k : Nat, k ≤ v.chests.n ∧ i = .int .i64 k ∧ Below W5.heap.size W5 wr) (fun i _ => v.chests.n - (intOf i).toNat)
  case atStart => exact ⟨0, Nat.zero_le _, rfl, Below.refl _ _⟩
  case round =>
    obtain ⟨i, hi, rfl, hb⟩ := hrel
    obtain ⟨wo, rfl⟩ : ∃ wo : World, wo = wr := ⟨_, rfl⟩
    have BXo := BX5.lift hb
    have hwo := below_on hw5 hb
    have c7 := BXo.cell 7 (.slice v.chests.a v.chests.n v.chests.c) rfl
    by_cases hlt : i < v.chests.n
    · obtain ⟨x, hx⟩ := at_of_lt HLc.out hlt
      obtain ⟨b, o, tx, ha, hbl, hc0, _, hcr⟩ := h.chests.chest_at hx
      obtain ⟨txa, txn, txc⟩ := tx
      have HX := Lib.hid hx
      have hxn : txn ≤ 281474976710656 := by have := hcr.small; simp at this; omega
      have HXL : Hid (x.cakes.length = txn) := hcr.len
      have HA := Lib.hid ha
      rw [ha] at c7
      clear hx ha
      go_wp2
      clear c7
      go_loopw [5, 6, 7] (fun l d q wr => ∃ (j : Nat) (z : Int) (b : Bool), j ≤ txn ∧ l = .int .i64 z ∧ Hid (z = lastOf m.loft m.loft.put (x.cakes.take j)) ∧ d = .bool b ∧ Hid (b = dryAll m.loft m.loft.put (x.cakes.take j)) ∧ q = .int .i64 j ∧ Below W5.heap.size W5 wr) (fun _ _ q _ => txn - (intOf q).toNat)
      case atStart => exact ⟨0, -1, true, Nat.zero_le _, rfl, by simp [Hid, lastOf], rfl, by simp [Hid, dryAll], rfl, hb⟩
      case round =>
        obtain ⟨j, z, bb, hj, rfl, hz, rfl, hbb, rfl, hbi⟩ := hrel
        obtain ⟨wi, rfl⟩ : ∃ wi : World, wi = wr := ⟨_, rfl⟩
        have BXi := BX5.lift hbi
        have hwi := below_on hw5 hbi
        have c7 := BXi.cell 7 (.slice v.chests.a v.chests.n v.chests.c) rfl
        rw [HA.out] at c7
        have hc0 := lift hwi hc0
        by_cases hlt2 : j < txn
        · obtain ⟨y, hy⟩ := at_of_lt HXL.out hlt2
          obtain ⟨b3, o3, ha3, hbl3, hc3⟩ := hcr.int_at hy
          have hc3 := lift hwi hc3
          simp only at ha3
          subst ha3
          have HZ : Hid (lastOf m.loft m.loft.put (x.cakes.take (j + 1)) = max z (dayS m.loft m.loft.put y).1) := by show _ = _; rw [lastOf_at hy, ← hz.out]
          have HB : Hid (dryAll m.loft m.loft.put (x.cakes.take (j + 1)) = (bb && ((dayS m.loft m.loft.put y).2 == 0))) := by show _ = _; rw [dryAll_at hy, ← hbb.out]
          have hD := fun W (hl : RdLoft W lv m.loft) => Day_any lv m.loft lv.put m.loft.put y W hl hl.put
          obtain ⟨⟨dv, ev⟩, hdv⟩ : ∃ p, dayS m.loft m.loft.put y = p := ⟨_, rfl⟩
          rw [hdv] at hD HZ HB
          simp only at hD HZ HB
          have HD := Lib.hid hD
          clear hy hD hdv hz hbb
          have hLi := hL5.below hbi
          have B5i := B5.lift hbi
          have q0 := B5i.cell 0 (.int .i64 lv.last) rfl; have q1 := B5i.cell 1 (.slice lv.air.a lv.air.n lv.air.c) rfl; have q2 := B5i.cell 2 (.slice lv.shelves.a lv.shelves.n lv.shelves.c) rfl; have q3 := B5i.cell 3 (.slice lv.cakes.a lv.cakes.n lv.cakes.c) rfl; have q4 := B5i.cell 4 (.slice lv.put.a lv.put.n lv.put.c) rfl; have q5 := B5i.cell 5 (.slice lv.weights.a lv.weights.n lv.weights.c) rfl
          have hmax : (if z < dv then dv else z) = max z dv := by omega
          by_cases hev : ev = 0
          · subst hev
            rw [show ((0 : Int) == 0) = true from rfl, Bool.and_true] at HB
            go_wp2
            have zz0 := fun x : After wi => At.cell q0 x
            have zz1 := fun x : After wi => At.cell q1 x
            have zz2 := fun x : After wi => At.cell q2 x
            have zz3 := fun x : After wi => At.cell q3 x
            have zz4 := fun x : After wi => At.cell q4 x
            have zz5 := fun x : After wi => At.cell q5 x
            have zz6 := fun x : After wi => At.cell c7 x
            have zz7 := fun x : After wi => At.cell hc0 x
            have zz8 := fun x : After wi => At.cell hc3 x
            refine wp_region_after (by kernel_rfl) (by kernel_rfl) ?_
            repeat (go_big_quiet_step ((go_at_call 52; exact after_call (HD.out _ (hLi.below (At.below _))))))
            refine wpQuiet_nil ?_
            intro W6 hbW6
            clear zz0 zz1 zz2 zz3 zz4 zz5 zz6 zz7 zz8
            cases bb
            · go_wp2
              all_goals
                go_roundw
                case measure => simp [intOf]; omega
                case rel => exact ⟨j + 1, max z dv, false, by omega, by first | rfl | (congr 1; omega), HZ.out.symm, rfl, HB.out.symm, by go_num, below_on hbi hbW6⟩
            · go_wp2
              all_goals
                go_roundw
                case measure => simp [intOf]; omega
                case rel => exact ⟨j + 1, max z dv, true, by omega, by first | rfl | (congr 1; omega), HZ.out.symm, rfl, HB.out.symm, by go_num, below_on hbi hbW6⟩
          · have hnb : (ev == 0) = false := by simp [hev]
            rw [hnb, Bool.and_false] at HB
            go_wp2
            have zz0 := fun x : After wi => At.cell q0 x
            have zz1 := fun x : After wi => At.cell q1 x
            have zz2 := fun x : After wi => At.cell q2 x
            have zz3 := fun x : After wi => At.cell q3 x
            have zz4 := fun x : After wi => At.cell q4 x
            have zz5 := fun x : After wi => At.cell q5 x
            have zz6 := fun x : After wi => At.cell c7 x
            have zz7 := fun x : After wi => At.cell hc0 x
            have zz8 := fun x : After wi => At.cell hc3 x
            refine wp_region_after (by kernel_rfl) (by kernel_rfl) ?_
            repeat (go_big_quiet_step ((go_at_call 52; exact after_call (HD.out _ (hLi.below (At.below _))))))
            refine wpQuiet_nil ?_
            intro W6 hbW6
            clear zz0 zz1 zz2 zz3 zz4 zz5 zz6 zz7 zz8
            cases bb
            · go_wp2
              all_goals
                go_roundw
                case measure => simp [intOf]; omega
                case rel => exact ⟨j + 1, max z dv, false, by omega, by first | rfl | (congr 1; omega), HZ.out.symm, rfl, HB.out.symm, by go_num, below_on hbi hbW6⟩
            · go_wp2
              all_goals
                go_roundw
                case measure => simp [intOf]; omega
                case rel => exact ⟨j + 1, max z dv, false, by omega, by first | rfl | (congr 1; omega), HZ.out.symm, rfl, HB.out.symm, by go_num, below_on hbi hbW6⟩
        · obtain rfl : j = txn := by omega
          have HZ : Hid (z = lastOf m.loft m.loft.put x.cakes) := by have h1 := hz.out; rwa [take_len HXL.out] at h1
          have HB : Hid (bb = dryAll m.loft m.loft.put x.cakes) := by have h1 := hbb.out; rwa [take_len HXL.out] at h1
          obtain ⟨p1, p2⟩ := chestTop_ok HFA.out HX.out
          rw [← HZ.out, ← HB.out] at p1 p2
          have hR := fun v' W (hv : RdMkt W v' m) => Ready_any v' m i W hv
          obtain ⟨⟨nv, ev⟩, hne⟩ : ∃ p, readyS m i = p := ⟨_, rfl⟩
          rw [hne] at p1 p2 hR
          simp only at p1 p2 hR
          obtain ⟨du, hdu⟩ : ∃ du, afterS m.sales z = du := ⟨_, rfl⟩
          rw [hdu] at p1 p2
          have HR := Lib.hid hR
          have HDU := Lib.hid hdu
          clear hz hbb hR hne hdu HB HZ
          by_cases hev : ev = 0
          · subst hev
            obtain ⟨hbt, hnd⟩ := p1 rfl
            subst hnd hbt
            clear p1 p2
            have hnn : (nv != nv) = false := by simp
            have c0 := BXi.cell 0 (.int .i64 v.loft.last) rfl; have c1 := BXi.cell 1 (.slice v.loft.air.a v.loft.air.n v.loft.air.c) rfl; have c2 := BXi.cell 2 (.slice v.loft.shelves.a v.loft.shelves.n v.loft.shelves.c) rfl; have c3 := BXi.cell 3 (.slice v.loft.cakes.a v.loft.cakes.n v.loft.cakes.c) rfl; have c4 := BXi.cell 4 (.slice v.loft.put.a v.loft.put.n v.loft.put.c) rfl; have c5 := BXi.cell 5 (.slice v.loft.weights.a v.loft.weights.n v.loft.weights.c) rfl; have c6 := BXi.cell 6 (.slice v.sales.a v.sales.n v.sales.c) rfl; have c8 := BXi.cell 8 (.int .i64 v.step) rfl; have c9 := BXi.cell 9 (.int .i64 v.lots) rfl; have c10 := BXi.cell 10 (.slice v.notes.a v.notes.n v.notes.c) rfl
            go_wp2_with (first | (go_at_call 26; rw [← HA.out]; refine (Market_any v m _ (h.below hwi) HS.out).mono ?_; rintro e w6 ⟨v6, rfl, hfr6, hb6⟩; have d0 := (BXi.lift hb6).cell 0 (.int .i64 v.loft.last) rfl; have d1 := (BXi.lift hb6).cell 1 (.slice v.loft.air.a v.loft.air.n v.loft.air.c) rfl; have d2 := (BXi.lift hb6).cell 2 (.slice v.loft.shelves.a v.loft.shelves.n v.loft.shelves.c) rfl; have d3 := (BXi.lift hb6).cell 3 (.slice v.loft.cakes.a v.loft.cakes.n v.loft.cakes.c) rfl; have d4 := (BXi.lift hb6).cell 4 (.slice v.loft.put.a v.loft.put.n v.loft.put.c) rfl; have d5 := (BXi.lift hb6).cell 5 (.slice v.loft.weights.a v.loft.weights.n v.loft.weights.c) rfl; have d6 := (BXi.lift hb6).cell 6 (.slice v.sales.a v.sales.n v.sales.c) rfl; have d7 := (BXi.lift hb6).cell 7 (.slice v.chests.a v.chests.n v.chests.c) rfl; have d8 := (BXi.lift hb6).cell 8 (.int .i64 v.step) rfl; have d9 := (BXi.lift hb6).cell 9 (.int .i64 v.lots) rfl; have d10 := (BXi.lift hb6).cell 10 (.slice v.notes.a v.notes.n v.notes.c) rfl) | (go_at_call 25; refine (HR.out v6 _ hfr6.now).mono ?_; rintro e w7 ⟨rfl, hb7⟩; have g0 := ((BXi.lift hb6).lift hb7).cell 0 (.int .i64 v.loft.last) rfl; have g1 := ((BXi.lift hb6).lift hb7).cell 1 (.slice v.loft.air.a v.loft.air.n v.loft.air.c) rfl; have g2 := ((BXi.lift hb6).lift hb7).cell 2 (.slice v.loft.shelves.a v.loft.shelves.n v.loft.shelves.c) rfl; have g3 := ((BXi.lift hb6).lift hb7).cell 3 (.slice v.loft.cakes.a v.loft.cakes.n v.loft.cakes.c) rfl; have g4 := ((BXi.lift hb6).lift hb7).cell 4 (.slice v.loft.put.a v.loft.put.n v.loft.put.c) rfl; have g5 := ((BXi.lift hb6).lift hb7).cell 5 (.slice v.loft.weights.a v.loft.weights.n v.loft.weights.c) rfl; have g6 := ((BXi.lift hb6).lift hb7).cell 6 (.slice v.sales.a v.sales.n v.sales.c) rfl; have g7 := ((BXi.lift hb6).lift hb7).cell 7 (.slice v.chests.a v.chests.n v.chests.c) rfl; have g8 := ((BXi.lift hb6).lift hb7).cell 8 (.int .i64 v.step) rfl; have g9 := ((BXi.lift hb6).lift hb7).cell 9 (.int .i64 v.lots) rfl; have g10 := ((BXi.lift hb6).lift hb7).cell 10 (.slice v.notes.a v.notes.n v.notes.c) rfl) | (go_at_call 53; refine (call_val (after_any v m z _ (((h.below hwi).below hb6).below hb7)) (congrArg (Value.int .i64) HDU.out)).mono ?_; rintro e w8 ⟨rfl, hb8⟩))
            go_roundw
            case measure => simp [intOf]; omega
            case rel => exact ⟨i + 1, by omega, by go_num, below_on (below_on (below_on hbi hb6) hb7) hb8⟩
          · obtain ⟨h10, hnn⟩ := p2 hev
            subst h10
            clear p1 p2
            have c0 := BXi.cell 0 (.int .i64 v.loft.last) rfl; have c1 := BXi.cell 1 (.slice v.loft.air.a v.loft.air.n v.loft.air.c) rfl; have c2 := BXi.cell 2 (.slice v.loft.shelves.a v.loft.shelves.n v.loft.shelves.c) rfl; have c3 := BXi.cell 3 (.slice v.loft.cakes.a v.loft.cakes.n v.loft.cakes.c) rfl; have c4 := BXi.cell 4 (.slice v.loft.put.a v.loft.put.n v.loft.put.c) rfl; have c5 := BXi.cell 5 (.slice v.loft.weights.a v.loft.weights.n v.loft.weights.c) rfl; have c6 := BXi.cell 6 (.slice v.sales.a v.sales.n v.sales.c) rfl; have c8 := BXi.cell 8 (.int .i64 v.step) rfl; have c9 := BXi.cell 9 (.int .i64 v.lots) rfl; have c10 := BXi.cell 10 (.slice v.notes.a v.notes.n v.notes.c) rfl
            cases bb
            · go_wp2_with (first | (go_at_call 26; rw [← HA.out]; refine (Market_any v m _ (h.below hwi) HS.out).mono ?_; rintro e w6 ⟨v6, rfl, hfr6, hb6⟩; have d0 := (BXi.lift hb6).cell 0 (.int .i64 v.loft.last) rfl; have d1 := (BXi.lift hb6).cell 1 (.slice v.loft.air.a v.loft.air.n v.loft.air.c) rfl; have d2 := (BXi.lift hb6).cell 2 (.slice v.loft.shelves.a v.loft.shelves.n v.loft.shelves.c) rfl; have d3 := (BXi.lift hb6).cell 3 (.slice v.loft.cakes.a v.loft.cakes.n v.loft.cakes.c) rfl; have d4 := (BXi.lift hb6).cell 4 (.slice v.loft.put.a v.loft.put.n v.loft.put.c) rfl; have d5 := (BXi.lift hb6).cell 5 (.slice v.loft.weights.a v.loft.weights.n v.loft.weights.c) rfl; have d6 := (BXi.lift hb6).cell 6 (.slice v.sales.a v.sales.n v.sales.c) rfl; have d7 := (BXi.lift hb6).cell 7 (.slice v.chests.a v.chests.n v.chests.c) rfl; have d8 := (BXi.lift hb6).cell 8 (.int .i64 v.step) rfl; have d9 := (BXi.lift hb6).cell 9 (.int .i64 v.lots) rfl; have d10 := (BXi.lift hb6).cell 10 (.slice v.notes.a v.notes.n v.notes.c) rfl) | (go_at_call 25; refine (HR.out v6 _ hfr6.now).mono ?_; rintro e w7 ⟨rfl, hb7⟩; have g0 := ((BXi.lift hb6).lift hb7).cell 0 (.int .i64 v.loft.last) rfl; have g1 := ((BXi.lift hb6).lift hb7).cell 1 (.slice v.loft.air.a v.loft.air.n v.loft.air.c) rfl; have g2 := ((BXi.lift hb6).lift hb7).cell 2 (.slice v.loft.shelves.a v.loft.shelves.n v.loft.shelves.c) rfl; have g3 := ((BXi.lift hb6).lift hb7).cell 3 (.slice v.loft.cakes.a v.loft.cakes.n v.loft.cakes.c) rfl; have g4 := ((BXi.lift hb6).lift hb7).cell 4 (.slice v.loft.put.a v.loft.put.n v.loft.put.c) rfl; have g5 := ((BXi.lift hb6).lift hb7).cell 5 (.slice v.loft.weights.a v.loft.weights.n v.loft.weights.c) rfl; have g6 := ((BXi.lift hb6).lift hb7).cell 6 (.slice v.sales.a v.sales.n v.sales.c) rfl; have g7 := ((BXi.lift hb6).lift hb7).cell 7 (.slice v.chests.a v.chests.n v.chests.c) rfl; have g8 := ((BXi.lift hb6).lift hb7).cell 8 (.int .i64 v.step) rfl; have g9 := ((BXi.lift hb6).lift hb7).cell 9 (.int .i64 v.lots) rfl; have g10 := ((BXi.lift hb6).lift hb7).cell 10 (.slice v.notes.a v.notes.n v.notes.c) rfl) | (go_at_call 53; refine (call_val (after_any v m z _ (((h.below hwi).below hb6).below hb7)) (congrArg (Value.int .i64) HDU.out)).mono ?_; rintro e w8 ⟨rfl, hb8⟩))
              go_roundw
              case measure => simp [intOf]; omega
              case rel => exact ⟨i + 1, by omega, by go_num, below_on (below_on (below_on hbi hb6) hb7) hb8⟩
            · have hdu : ¬ (0 ≤ du) := fun q => hnn ⟨rfl, q⟩
              have hdb : decide (0 ≤ du) = false := by simpa using hdu
              clear hnn
              go_wp2_with (first | (go_at_call 26; rw [← HA.out]; refine (Market_any v m _ (h.below hwi) HS.out).mono ?_; rintro e w6 ⟨v6, rfl, hfr6, hb6⟩; have d0 := (BXi.lift hb6).cell 0 (.int .i64 v.loft.last) rfl; have d1 := (BXi.lift hb6).cell 1 (.slice v.loft.air.a v.loft.air.n v.loft.air.c) rfl; have d2 := (BXi.lift hb6).cell 2 (.slice v.loft.shelves.a v.loft.shelves.n v.loft.shelves.c) rfl; have d3 := (BXi.lift hb6).cell 3 (.slice v.loft.cakes.a v.loft.cakes.n v.loft.cakes.c) rfl; have d4 := (BXi.lift hb6).cell 4 (.slice v.loft.put.a v.loft.put.n v.loft.put.c) rfl; have d5 := (BXi.lift hb6).cell 5 (.slice v.loft.weights.a v.loft.weights.n v.loft.weights.c) rfl; have d6 := (BXi.lift hb6).cell 6 (.slice v.sales.a v.sales.n v.sales.c) rfl; have d7 := (BXi.lift hb6).cell 7 (.slice v.chests.a v.chests.n v.chests.c) rfl; have d8 := (BXi.lift hb6).cell 8 (.int .i64 v.step) rfl; have d9 := (BXi.lift hb6).cell 9 (.int .i64 v.lots) rfl; have d10 := (BXi.lift hb6).cell 10 (.slice v.notes.a v.notes.n v.notes.c) rfl) | (go_at_call 25; refine (HR.out v6 _ hfr6.now).mono ?_; rintro e w7 ⟨rfl, hb7⟩; have g0 := ((BXi.lift hb6).lift hb7).cell 0 (.int .i64 v.loft.last) rfl; have g1 := ((BXi.lift hb6).lift hb7).cell 1 (.slice v.loft.air.a v.loft.air.n v.loft.air.c) rfl; have g2 := ((BXi.lift hb6).lift hb7).cell 2 (.slice v.loft.shelves.a v.loft.shelves.n v.loft.shelves.c) rfl; have g3 := ((BXi.lift hb6).lift hb7).cell 3 (.slice v.loft.cakes.a v.loft.cakes.n v.loft.cakes.c) rfl; have g4 := ((BXi.lift hb6).lift hb7).cell 4 (.slice v.loft.put.a v.loft.put.n v.loft.put.c) rfl; have g5 := ((BXi.lift hb6).lift hb7).cell 5 (.slice v.loft.weights.a v.loft.weights.n v.loft.weights.c) rfl; have g6 := ((BXi.lift hb6).lift hb7).cell 6 (.slice v.sales.a v.sales.n v.sales.c) rfl; have g7 := ((BXi.lift hb6).lift hb7).cell 7 (.slice v.chests.a v.chests.n v.chests.c) rfl; have g8 := ((BXi.lift hb6).lift hb7).cell 8 (.int .i64 v.step) rfl; have g9 := ((BXi.lift hb6).lift hb7).cell 9 (.int .i64 v.lots) rfl; have g10 := ((BXi.lift hb6).lift hb7).cell 10 (.slice v.notes.a v.notes.n v.notes.c) rfl) | (go_at_call 53; refine (call_val (after_any v m z _ (((h.below hwi).below hb6).below hb7)) (congrArg (Value.int .i64) HDU.out)).mono ?_; rintro e w8 ⟨rfl, hb8⟩))
              go_roundw
              case measure => simp [intOf]; omega
              case rel => exact ⟨i + 1, by omega, by go_num, below_on (below_on (below_on hbi hb6) hb7) hb8⟩
    · obtain rfl : i = v.chests.n := by omega
      have ho := h.below hwo
      clear hb B5 hL5 h5 BX5 c7
      have c0 := BXo.cell 0 (.int .i64 v.loft.last) rfl
      have c1 := BXo.cell 1 (.slice v.loft.air.a v.loft.air.n v.loft.air.c) rfl
      have c2 := BXo.cell 2 (.slice v.loft.shelves.a v.loft.shelves.n v.loft.shelves.c) rfl
      have c3 := BXo.cell 3 (.slice v.loft.cakes.a v.loft.cakes.n v.loft.cakes.c) rfl
      have c4 := BXo.cell 4 (.slice v.loft.put.a v.loft.put.n v.loft.put.c) rfl
      have c5 := BXo.cell 5 (.slice v.loft.weights.a v.loft.weights.n v.loft.weights.c) rfl
      have c6 := BXo.cell 6 (.slice v.sales.a v.sales.n v.sales.c) rfl
      have c7 := BXo.cell 7 (.slice v.chests.a v.chests.n v.chests.c) rfl
      have c8 := BXo.cell 8 (.int .i64 v.step) rfl
      have c9 := BXo.cell 9 (.int .i64 v.lots) rfl
      have c10 := BXo.cell 10 (.slice v.notes.a v.notes.n v.notes.c) rfl
      obtain ⟨W6, hNW6, B6, hW6, hzW6⟩ := Box.named wo #[.int .i64 0, .slice none 0 0, .slice none 0 0, .slice none 0 0, .slice none 0 0, .slice none 0 0, .slice none 0 0, .slice none 0 0, .int .i64 0, .int .i64 0, .slice none 0 0] 33
      have HI33 : Hid ((Tryz.prog.info? 33).map (·.size) = some 11) := by show _ = _; kernel_rfl
      cases hbs : bestS m.loft.bare with
      | none =>
        have hB := fun v W (hv : RdLoft W v m.loft.bare) => best_none (MOk.of HFA.out).loft hbs W hv
        have HB := Lib.hid hB
        clear hB hbs
        obtain ⟨du, hdu⟩ : ∃ du, afterS m.sales 0 = du := ⟨_, rfl⟩
        have HDU := Lib.hid hdu
        clear hdu
        go_wp2_with (first
          | (refine wpList_store_box rfl 33 _ _ rfl wo.heap.size v.cs _ _ rfl rfl B6 HI33.out rfl rfl ?_; intro W7 B7 hg7 hs7; clear c0 c1 c2 c3 c4 c5 c6 c7 c8 c9 c10 hNW6; have r5 := B7.cell 5 (.slice v.loft.weights.a v.loft.weights.n v.loft.weights.c) rfl; have r10 := B7.cell 10 (.slice v.notes.a v.notes.n v.notes.c) rfl; have r0 := B7.cell 0 (.int .i64 v.loft.last) rfl; have r1 := B7.cell 1 (.slice v.loft.air.a v.loft.air.n v.loft.air.c) rfl; have r2 := B7.cell 2 (.slice v.loft.shelves.a v.loft.shelves.n v.loft.shelves.c) rfl; have r3 := B7.cell 3 (.slice v.loft.cakes.a v.loft.cakes.n v.loft.cakes.c) rfl; have r4 := B7.cell 4 (.slice v.loft.put.a v.loft.put.n v.loft.put.c) rfl; have f5 := B7.free 5; have f10 := B7.free 10) | (go_at_call 51; obtain ⟨W8, hW8⟩ : ∃ W8, (W7.setCell ⟨wo.heap.size, 10, none⟩ (.slice none 0 0)).setCell ⟨wo.heap.size, 5, none⟩ (.slice none 0 0) = W8 := ⟨_, rfl⟩; rw [hW8]; have hb7 : Below wo.heap.size wo W8 := by { rw [← hW8]; exact below_set (below_set ((hW6.grown hg7 hW6.size (fun k e => by injection e; omega))) (Nat.le_refl _) _) (Nat.le_refl _) _ }; have B8 := B7.set 10 (.slice none 0 0); simp only [List.setIfInBounds_toArray, List.set_cons_zero, List.set_cons_succ] at B8; have B8 := B8.set 5 (.slice none 0 0); simp only [List.setIfInBounds_toArray, List.set_cons_zero, List.set_cons_succ] at B8; rw [hW8] at B8; clear hW8 r0 r1 r2 r3 r4 r5 r10 f5 f10 B7 hg7 hs7; refine (LoftS_any (bareV v).loft m.loft.bare _ (rd_bare (ho.below hb7)).loft (small_bare HS.out)).mono ?_; rintro e w8 ⟨lv2, rfl, hfr8, hb8⟩)
          | (go_at_call 54; refine (HB.out lv2 _ hfr8.now).mono ?_; rintro e w9 ⟨rfl, hb9⟩; have B9 := (B8.lift hb8).lift hb9; have e0 := B9.cell 0 (.int .i64 v.loft.last) rfl; have e1 := B9.cell 1 (.slice v.loft.air.a v.loft.air.n v.loft.air.c) rfl; have e2 := B9.cell 2 (.slice v.loft.shelves.a v.loft.shelves.n v.loft.shelves.c) rfl; have e3 := B9.cell 3 (.slice v.loft.cakes.a v.loft.cakes.n v.loft.cakes.c) rfl; have e4 := B9.cell 4 (.slice v.loft.put.a v.loft.put.n v.loft.put.c) rfl; have e5 := B9.cell 5 (.slice none 0 0) rfl; have e6 := B9.cell 6 (.slice v.sales.a v.sales.n v.sales.c) rfl; have e7 := B9.cell 7 (.slice v.chests.a v.chests.n v.chests.c) rfl; have e8 := B9.cell 8 (.int .i64 v.step) rfl; have e9 := B9.cell 9 (.int .i64 v.lots) rfl; have e10 := B9.cell 10 (.slice none 0 0) rfl)
          | (go_at_call 53; refine (call_val (after_any (bareV v) m.bare 0 _ (rd_bare (((ho.below hb7).below hb8).below hb9))) (congrArg (Value.int .i64) HDU.out)).mono ?_; rintro e w10 ⟨rfl, hb10⟩)
          | (go_at_call 50; refine (offered_ok _).mono ?_; rintro e w11 ⟨rfl, hb11⟩))
        go_ret
        exact ⟨rfl, below_on (below_on (below_on (below_on (below_on hwo hb7) hb8) hb9) hb10) hb11⟩
      | some dq =>
        obtain ⟨d, q⟩ := dq
        have hB := fun v W (hv : RdLoft W v m.loft.bare) => best_some (MOk.of HFA.out).loft hbs W hv
        have HB := Lib.hid hB
        clear hB
        rcases afterS_cases m.sales d with ⟨hno, _⟩ | ⟨k, s, hk, hs, hds, _⟩
        · have HDU := Lib.hid hno
          clear hno
          go_wp2_with (first
            | (refine wpList_store_box rfl 33 _ _ rfl wo.heap.size v.cs _ _ rfl rfl B6 HI33.out rfl rfl ?_; intro W7 B7 hg7 hs7; clear c0 c1 c2 c3 c4 c5 c6 c7 c8 c9 c10 hNW6; have r5 := B7.cell 5 (.slice v.loft.weights.a v.loft.weights.n v.loft.weights.c) rfl; have r10 := B7.cell 10 (.slice v.notes.a v.notes.n v.notes.c) rfl; have r0 := B7.cell 0 (.int .i64 v.loft.last) rfl; have r1 := B7.cell 1 (.slice v.loft.air.a v.loft.air.n v.loft.air.c) rfl; have r2 := B7.cell 2 (.slice v.loft.shelves.a v.loft.shelves.n v.loft.shelves.c) rfl; have r3 := B7.cell 3 (.slice v.loft.cakes.a v.loft.cakes.n v.loft.cakes.c) rfl; have r4 := B7.cell 4 (.slice v.loft.put.a v.loft.put.n v.loft.put.c) rfl; have f5 := B7.free 5; have f10 := B7.free 10) | (go_at_call 51; obtain ⟨W8, hW8⟩ : ∃ W8, (W7.setCell ⟨wo.heap.size, 10, none⟩ (.slice none 0 0)).setCell ⟨wo.heap.size, 5, none⟩ (.slice none 0 0) = W8 := ⟨_, rfl⟩; rw [hW8]; have hb7 : Below wo.heap.size wo W8 := by { rw [← hW8]; exact below_set (below_set ((hW6.grown hg7 hW6.size (fun k e => by injection e; omega))) (Nat.le_refl _) _) (Nat.le_refl _) _ }; have B8 := B7.set 10 (.slice none 0 0); simp only [List.setIfInBounds_toArray, List.set_cons_zero, List.set_cons_succ] at B8; have B8 := B8.set 5 (.slice none 0 0); simp only [List.setIfInBounds_toArray, List.set_cons_zero, List.set_cons_succ] at B8; rw [hW8] at B8; clear hW8 r0 r1 r2 r3 r4 r5 r10 f5 f10 B7 hg7 hs7; refine (LoftS_any (bareV v).loft m.loft.bare _ (rd_bare (ho.below hb7)).loft (small_bare HS.out)).mono ?_; rintro e w8 ⟨lv2, rfl, hfr8, hb8⟩)
            | (go_at_call 54; refine (HB.out lv2 _ hfr8.now).mono ?_; rintro e w9 ⟨⟨sq, rfl, hq9⟩, hb9⟩; have B9 := (B8.lift hb8).lift hb9; have e0 := B9.cell 0 (.int .i64 v.loft.last) rfl; have e1 := B9.cell 1 (.slice v.loft.air.a v.loft.air.n v.loft.air.c) rfl; have e2 := B9.cell 2 (.slice v.loft.shelves.a v.loft.shelves.n v.loft.shelves.c) rfl; have e3 := B9.cell 3 (.slice v.loft.cakes.a v.loft.cakes.n v.loft.cakes.c) rfl; have e4 := B9.cell 4 (.slice v.loft.put.a v.loft.put.n v.loft.put.c) rfl; have e5 := B9.cell 5 (.slice none 0 0) rfl; have e6 := B9.cell 6 (.slice v.sales.a v.sales.n v.sales.c) rfl; have e7 := B9.cell 7 (.slice v.chests.a v.chests.n v.chests.c) rfl; have e8 := B9.cell 8 (.int .i64 v.step) rfl; have e9 := B9.cell 9 (.int .i64 v.lots) rfl; have e10 := B9.cell 10 (.slice none 0 0) rfl)
            | (go_at_call 53; refine (call_val (after_any (bareV v) m.bare d _ (rd_bare (((ho.below hb7).below hb8).below hb9))) (congrArg (Value.int .i64) HDU.out)).mono ?_; rintro e w10 ⟨rfl, hb10⟩)
            | (go_at_call 50; refine (offered_ok _).mono ?_; rintro e w11 ⟨rfl, hb11⟩))
          go_ret
          exact ⟨rfl, below_on (below_on (below_on (below_on (below_on hwo hb7) hb8) hb9) hb10) hb11⟩
        · have T2 := topTwo HFA.out hbs hs hds
          have hMO := MOk.of HFA.out
          have hsl := lt_of_at hs
          have hs4 := hMO.s4
          have hc4 := hMO.c4
          have hlo := hMO.prices s (List.mem_of_getElem? hs)
          unfold PrOk at hlo
          have HQL : Hid (q.length ≤ 5) := q_len hMO hbs
          have HMB : Hid (∀ j : Nat, j ≤ m.chests.length → 0 ≤ manyTo m.chests s.price.lo j ∧ manyTo m.chests s.price.lo j ≤ 5 * j) := fun j hj => manyTo_bd (fun c hc => hMO.cakesLen hc) j hj
          have HCL : Hid (∀ c ∈ m.chests, c.cakes.length ≤ 5) := fun c hc => hMO.cakesLen hc
          have HSN : Hid (m.sales.length = v.sales.n) := h.sales.len
          have hsn4 : v.sales.n ≤ 4 := by have := HSN.out; omega
          have hcn4 : v.chests.n ≤ 4 := by have := HLc.out; omega
          have hk0 : ¬ ((k : Int) < 0) := by omega
          have HDU := Lib.hid hk
          have HSS := Lib.hid hs
          have HT2 := Lib.hid T2
          obtain ⟨i0, hi0, hz0, hz1, hz2⟩ := info_parts info3
          obtain ⟨i1, hi1, hy0, hy1, hy2⟩ := info_parts info93
          have HI := Lib.hid hi0
          have HZ0 := Lib.hid hz0
          have HZ1 := Lib.hid hz1
          have HZ2 := Lib.hid hz2
          have HJ := Lib.hid hi1
          have HY0 := Lib.hid hy0
          have HY1 := Lib.hid hy1
          have HY2 := Lib.hid hy2
          have HB2 : Hid (i0.bytes * v.chests.n ≤ 281474976710656) := by show _ ≤ _; rw [hz2]; omega
          clear hi0 hz0 hz1 hz2 hi1 hy0 hy1 hy2 T2 hMO hs hk hbs
          have hsz0 : w.heap.size < wo.heap.size := BXo.lt
          go_wp2_with (first | (refine wpList_store_box rfl 33 _ _ rfl wo.heap.size v.cs _ _ rfl rfl B6 HI33.out rfl rfl ?_; intro W7 B7 hg7 hs7; clear c0 c1 c2 c3 c4 c5 c6 c7 c8 c9 c10 hNW6; have r5 := B7.cell 5 (.slice v.loft.weights.a v.loft.weights.n v.loft.weights.c) rfl; have r10 := B7.cell 10 (.slice v.notes.a v.notes.n v.notes.c) rfl; have r0 := B7.cell 0 (.int .i64 v.loft.last) rfl; have r1 := B7.cell 1 (.slice v.loft.air.a v.loft.air.n v.loft.air.c) rfl; have r2 := B7.cell 2 (.slice v.loft.shelves.a v.loft.shelves.n v.loft.shelves.c) rfl; have r3 := B7.cell 3 (.slice v.loft.cakes.a v.loft.cakes.n v.loft.cakes.c) rfl; have r4 := B7.cell 4 (.slice v.loft.put.a v.loft.put.n v.loft.put.c) rfl; have f5 := B7.free 5; have f10 := B7.free 10) | (go_at_call 51; obtain ⟨W8, hW8⟩ : ∃ W8, (W7.setCell ⟨wo.heap.size, 10, none⟩ (.slice none 0 0)).setCell ⟨wo.heap.size, 5, none⟩ (.slice none 0 0) = W8 := ⟨_, rfl⟩; rw [hW8]; have hb7 : Below wo.heap.size wo W8 := by { rw [← hW8]; exact below_set (below_set ((hW6.grown hg7 hW6.size (fun k e => by injection e; omega))) (Nat.le_refl _) _) (Nat.le_refl _) _ }; have B8 := B7.set 10 (.slice none 0 0); simp only [List.setIfInBounds_toArray, List.set_cons_zero, List.set_cons_succ] at B8; have B8 := B8.set 5 (.slice none 0 0); simp only [List.setIfInBounds_toArray, List.set_cons_zero, List.set_cons_succ] at B8; rw [hW8] at B8; clear hW8 r0 r1 r2 r3 r4 r5 r10 f5 f10 B7 hg7 hs7; refine (LoftS_any (bareV v).loft m.loft.bare _ (rd_bare (ho.below hb7)).loft (small_bare HS.out)).mono ?_; rintro e w8 ⟨lv2, rfl, hfr8, hb8⟩) | (go_at_call 54; refine (HB.out lv2 _ hfr8.now).mono ?_; rintro e w9 ⟨⟨sq, rfl, hq9⟩, hb9⟩; have HQ9 := Lib.hid hq9; clear hq9; have B9 := (B8.lift hb8).lift hb9; have e0 := B9.cell 0 (.int .i64 v.loft.last) rfl; have e1 := B9.cell 1 (.slice v.loft.air.a v.loft.air.n v.loft.air.c) rfl; have e2 := B9.cell 2 (.slice v.loft.shelves.a v.loft.shelves.n v.loft.shelves.c) rfl; have e3 := B9.cell 3 (.slice v.loft.cakes.a v.loft.cakes.n v.loft.cakes.c) rfl; have e4 := B9.cell 4 (.slice v.loft.put.a v.loft.put.n v.loft.put.c) rfl; have e5 := B9.cell 5 (.slice none 0 0) rfl; have e6 := B9.cell 6 (.slice v.sales.a v.sales.n v.sales.c) rfl; have e7 := B9.cell 7 (.slice v.chests.a v.chests.n v.chests.c) rfl; have e8 := B9.cell 8 (.int .i64 v.step) rfl; have e9 := B9.cell 9 (.int .i64 v.lots) rfl; have e10 := B9.cell 10 (.slice none 0 0) rfl) | (go_at_call 53; refine (call_val (after_any (bareV v) m.bare d _ (rd_bare (((ho.below hb7).below hb8).below hb9))) (congrArg (Value.int .i64) HDU.out)).mono ?_; rintro e w10 ⟨rfl, hb10⟩; clear e0 e1 e2 e3 e4 e5 e6 e7 e8 e9 e10; have HQ10 := Lib.hid (HQ9.out.below (encR_mono _) hb10); have ho10 := below_on (below_on (below_on hb7 hb8) hb9) hb10; have B10 := B9.lift hb10) | (at_builtin; refine wpList_copy (f := fun x : Int => [.int .i64 x]) (fun _ => rfl) (by decide) (by decide) (fun x u hu => by simp at hu; subst hu; rfl) rfl _ _ 25 rfl 3 i0 _ Tryz.underlying25 HI.out HZ0.out HZ1.out HZ2.out rfl w10 sq q HQ10.out (by have := HQ10.out.len; have := HQL.out; omega) rfl rfl ?_; intro sp w11 hcp; have HCP := Lib.hid hcp; clear hcp; have B11 := B10.lift HCP.out.below; have a4 := B11.cell 4 (.slice v.loft.put.a v.loft.put.n v.loft.put.c) rfl; have a9 := B11.cell 9 (.int .i64 v.lots) rfl; have f4 := B11.free 4; have f9 := B11.free 9) | (obtain ⟨W12, hW12⟩ : ∃ W12, (w11.setCell ⟨wo.heap.size, 4, none⟩ (.slice sp.a sp.n sp.c)).setCell ⟨wo.heap.size, 9, none⟩ (.int .i64 4) = W12 := ⟨_, rfl⟩; rw [hW12]; have hbo12 : Below wo.heap.size wo W12 := by { rw [← hW12]; exact below_set (below_set (below_on ho10 HCP.out.below) (Nat.le_refl _) _) (Nat.le_refl _) _ }; have hg12 : w11.grownBy W12 (some wo.heap.size) := by { rw [← hW12]; exact grown_set (grown_set (grown_rfl _ _) _) _ }; have B12 := B11.set 4 (.slice sp.a sp.n sp.c); simp only [List.setIfInBounds_toArray, List.set_cons_zero, List.set_cons_succ] at  B12; have B12 := B12.set 9 (.int .i64 4); simp only [List.setIfInBounds_toArray, List.set_cons_zero, List.set_cons_succ] at  B12; rw [hW12] at B12; clear hW12 a4 a9 f4 f9; have hszw : wo.heap.size < w10.heap.size := B10.lt; have hsz12 := hg12.size; have HSP : Hid (∀ ad, sp.a = some ad → ad.block ≠ wo.heap.size ∧ ad.block < W12.heap.size) := fun ad had => by { obtain ⟨g, cur, ha, hg, hbb⟩ := HCP.out.at_; rw [ha] at had; cases had; have := hbb.lt; show g ≠ _ ∧ g < _; omega }; have HQ12 : Hid (RdInts W12 sp q) := HCP.out.rd.grown hg12 (fun ad had => (HSP.out ad had).1); have g6 : (W12.alloc (.cells #[] 93)).cell? ⟨w.heap.size, 6, none⟩ = some (.slice v.sales.a v.sales.n v.sales.c) := Lib.cell?_alloc_some _ ((BXo.lift hbo12).cell 6 (.slice v.sales.a v.sales.n v.sales.c) rfl)) | (at_builtin; refine wpList_copy (f := SaleD.cs) (fun _ => rfl) (by decide) (by decide) (fun x u hu => by simp [SaleD.cs] at hu; rcases hu with rfl | rfl | rfl <;> rfl) rfl _ _ 29 rfl 93 i1 _ Tryz.underlying29 HJ.out HY0.out HY1.out HY2.out rfl W12 v.sales m.sales (ho.below hbo12).sales (by omega) rfl rfl ?_; rintro ⟨ssa, ssn, ssc⟩ w13 hcp2; obtain ⟨gs, cur, hga, hgs, BG⟩ := hcp2.at_; simp only at hga; subst hga; have HCP2 := Lib.hid hcp2; clear hcp2 g6; have B13 := B12.lift HCP2.out.below; have a6 := B13.cell 6 (.slice v.sales.a v.sales.n v.sales.c) rfl; have f6 := B13.free 6; have hbo13 := below_on hbo12 HCP2.out.below; have hsz13 := HCP2.out.below.size) | (obtain ⟨W14, hW14⟩ : ∃ W14, w13.setCell ⟨wo.heap.size, 6, none⟩ (.slice (some ⟨gs, 0, none⟩) ssn ssc) = W14 := ⟨_, rfl⟩; rw [hW14]; have hbo14 : Below wo.heap.size wo W14 := by { rw [← hW14]; exact below_set hbo13 (Nat.le_refl _) _ }; have hg14 : w13.grownBy W14 (some wo.heap.size) := by { rw [← hW14]; exact grown_set (grown_rfl _ _) _ }; have B14 := B13.set 6 (.slice (some ⟨gs, 0, none⟩) ssn ssc); simp only [List.setIfInBounds_toArray, List.set_cons_zero, List.set_cons_succ] at  B14; rw [hW14] at B14; clear hW14 a6 f6; have hszv : wo.heap.size < W12.heap.size := B12.lt; have BG14 := BG.grown hg14 (fun e => by injection e; omega); have HRS14 : Hid (Rd (encR SaleD.cs) 3 W14 ⟨some ⟨gs, 0, none⟩, ssn, ssc⟩ m.sales) := HCP2.out.rd.grown hg14 (fun ad had => by { cases had; show gs ≠ _; omega }); have HQ14 : Hid (RdInts W14 sp q) := (HQ12.out.below (encR_mono _) HCP2.out.below).grown hg14 (fun ad had => (HSP.out ad had).1); have hkn : k < ssn := by { have h1 := HCP2.out.n; simp only at h1; omega }; have hssn : ssn ≤ 4 := by { have h1 := HCP2.out.n; simp only at h1; omega }; obtain ⟨b', o', ha', hbl', t0, t1, t2⟩ := HRS14.out.sale_at HSS.out; cases ha'; simp only [Nat.zero_add] at t0 t1 t2; have fz := BG14.free (k * 3 + 2); have a6 := B14.cell 6 (.slice (some ⟨gs, 0, none⟩) ssn ssc) rfl) | (obtain ⟨W15, hW15⟩ : ∃ W15, W14.setCell ⟨gs, k * 3 + 2, none⟩ (.int .i64 s.price.lo) = W15 := ⟨_, rfl⟩; rw [hW15]; have hbo15 : Below wo.heap.size wo W15 := by { rw [← hW15]; exact below_set hbo14 (by omega) _ }; have hg15 : W14.grownBy W15 (some gs) := by { rw [← hW15]; exact grown_set (grown_rfl _ _) _ }; have B15 := B14.grown hg15 (fun e => by injection e; omega); have hrs := HRS14.out.set_cell (q := 2) (u := .int .i64 s.price.lo) rfl HSS.out (by decide) (y := oneP s) rfl rfl; rw [Nat.zero_add, hW15] at hrs; have HM15 : Hid (RdMkt W15 (at1V v sp ⟨some ⟨gs, 0, none⟩, ssn, ssc⟩) (m.at1 q k s)) := rd_at1 (ho.below hbo15) (HQ14.out.grown hg15 (fun ad had => by { have := (HSP.out ad had).2; omega })) hrs; clear hrs hW15 t0 t1 t2 fz a6; have a7 := B15.cell 7 (.slice v.chests.a v.chests.n v.chests.c) rfl; have hw15 := below_on hwo hbo15) | (at_make; refine wpList_make_full W15 rfl _ _ 25 rfl W15.heap.size 3 i0 _ 1 Tryz.underlying25 HI.out HZ0.out HZ1.out .i64 .i64 _ _ v.chests.n rfl rfl rfl rfl HB2.out (by unfold maxLen; omega) (Nat.le_refl _) ?_; intro w16 hown hg16; have BP := made_box rfl hown; have hb16 : Below W15.heap.size W15 w16 := (Below.refl _ W15).grown hg16 (Nat.le_refl _) (fun k e => by cases e); clear hown hg16 a7))
          go_loopw [19, 21] (fun mv iv wr => ∃ (j : Nat) (z : Int), j ≤ v.chests.n ∧ mv = .int .i64 z ∧ Hid (z = manyTo m.chests s.price.lo j) ∧ iv = .int .i64 j ∧ Box wr W15.heap.size (fillC v.chests.n j k) 3 ∧ Below W15.heap.size W15 wr) (fun _ iv _ => v.chests.n - (intOf iv).toNat)
          case atStart => exact ⟨0, 0, Nat.zero_le _, rfl, by simp [Hid, manyTo], rfl, by rw [← fillC_zero']; exact BP, hb16⟩
          case round =>
            obtain ⟨j, z, hj, rfl, hz, rfl, BPj, hbj⟩ := hrel
            obtain ⟨wl, rfl⟩ : ∃ wl : World, wl = wr := ⟨_, rfl⟩
            have BL := B15.lift hbj
            have HML : Hid (RdMkt wl (at1V v sp ⟨some ⟨gs, 0, none⟩, ssn, ssc⟩) (m.at1 q k s)) := HM15.out.below hbj
            have HSM : Hid (SmallM (m.at1 q k s)) := small_at1 HS.out (by have := HQL.out; omega) k s
            have hzb : 0 ≤ z ∧ z ≤ 20 := by
              have h1 := HMB.out j (by have := HLc.out; omega)
              rw [← hz.out] at h1
              omega
            have c0 := BL.cell 0 (.int .i64 v.loft.last) rfl; have c1 := BL.cell 1 (.slice v.loft.air.a v.loft.air.n v.loft.air.c) rfl; have c2 := BL.cell 2 (.slice v.loft.shelves.a v.loft.shelves.n v.loft.shelves.c) rfl; have c3 := BL.cell 3 (.slice v.loft.cakes.a v.loft.cakes.n v.loft.cakes.c) rfl; have c4 := BL.cell 4 (.slice sp.a sp.n sp.c) rfl; have c5 := BL.cell 5 (.slice none 0 0) rfl; have c6 := BL.cell 6 (.slice (some ⟨gs, 0, none⟩) ssn ssc) rfl; have c7 := BL.cell 7 (.slice v.chests.a v.chests.n v.chests.c) rfl; have c8 := BL.cell 8 (.int .i64 v.step) rfl; have c9 := BL.cell 9 (.int .i64 4) rfl; have c10 := BL.cell 10 (.slice none 0 0) rfl
            by_cases hltj : j < v.chests.n
            · obtain ⟨x, hx⟩ := at_of_lt HLc.out hltj
              obtain ⟨b, o, ⟨txa, txn, txc⟩, ha, hbl, hd0, hd1, hcr⟩ := h.chests.chest_at hx
              simp only at hd0
              have HXL : Hid (x.cakes.length = txn) := hcr.len
              have hx5 : txn ≤ 5 := by
                have := HCL.out x (List.mem_of_getElem? hx)
                have := HXL.out
                omega
              have HX := Lib.hid hx
              have HA := Lib.hid ha
              have hR := fun v' W (hv : RdMkt W v' (m.at1 q k s)) => Ready_any v' (m.at1 q k s) j W hv
              have hr0 := HT2.out.ready j (lt_of_at hx)
              obtain ⟨⟨nv, ev⟩, hne⟩ : ∃ p, readyS (m.at1 q k s) j = p := ⟨_, rfl⟩
              rw [hne] at hr0 hR
              simp only at hr0 hR
              obtain ⟨rfl, hnk⟩ := hr0
              have hnk2 : ¬ ((k : Int) < nv) := by omega
              have HRD := Lib.hid hR
              clear hx ha hne hR
              by_cases hr : x.reserve ≤ s.price.lo
              · go_wp2_with (first | (go_at_call 26; refine (Market_any (at1V v sp ⟨some ⟨gs, 0, none⟩, ssn, ssc⟩) (m.at1 q k s) _ HML.out HSM.out).mono ?_; rintro e w17 ⟨v6, rfl, hfr6, hb17⟩) | (go_at_call 25; refine (HRD.out v6 _ hfr6.now).mono ?_; rintro e w18 ⟨rfl, hb18⟩; clear c0 c1 c2 c3 c4 c5 c6 c7 c8 c9 c10; have BP18 := (BPj.lift hb17).lift hb18; have pc := BP18.cell j (.int .i64 0) (fillC_at hltj _); have pf := BP18.free j) | (obtain ⟨W19, hW19⟩ : ∃ W19, w18.setCell ⟨W15.heap.size, j, none⟩ (.int .i64 k) = W19 := ⟨_, rfl⟩; rw [hW19]; have hb19 : Below W15.heap.size W15 W19 := by { rw [← hW19]; exact below_set (below_on (below_on hbj hb17) hb18) (Nat.le_refl _) _ }; have BP19 := BP18.set j (.int .i64 (k : Int)); rw [fillC_set hltj, hW19] at BP19; clear hW19 pc pf BP18; have n7 := (B15.lift hb19).cell 7 (.slice v.chests.a v.chests.n v.chests.c) rfl; rw [HA.out] at n7; have hw19 := below_on hw15 hb19; have n0 := lift hw19 hd0; have n1 := lift hw19 hd1))
                go_roundw
                case measure => simp [intOf]; omega
                case rel => exact ⟨j + 1, z + txn, by omega, by go_num, by show _ = _; rw [manyTo_succ HX.out, if_pos hr, ← hz.out, HXL.out], by go_num, BP19, hb19⟩
              · go_wp2_with (first | (go_at_call 26; refine (Market_any (at1V v sp ⟨some ⟨gs, 0, none⟩, ssn, ssc⟩) (m.at1 q k s) _ HML.out HSM.out).mono ?_; rintro e w17 ⟨v6, rfl, hfr6, hb17⟩) | (go_at_call 25; refine (HRD.out v6 _ hfr6.now).mono ?_; rintro e w18 ⟨rfl, hb18⟩; clear c0 c1 c2 c3 c4 c5 c6 c7 c8 c9 c10; have BP18 := (BPj.lift hb17).lift hb18; have pc := BP18.cell j (.int .i64 0) (fillC_at hltj _); have pf := BP18.free j) | (obtain ⟨W19, hW19⟩ : ∃ W19, w18.setCell ⟨W15.heap.size, j, none⟩ (.int .i64 k) = W19 := ⟨_, rfl⟩; rw [hW19]; have hb19 : Below W15.heap.size W15 W19 := by { rw [← hW19]; exact below_set (below_on (below_on hbj hb17) hb18) (Nat.le_refl _) _ }; have BP19 := BP18.set j (.int .i64 (k : Int)); rw [fillC_set hltj, hW19] at BP19; clear hW19 pc pf BP18; have n7 := (B15.lift hb19).cell 7 (.slice v.chests.a v.chests.n v.chests.c) rfl; rw [HA.out] at n7; have hw19 := below_on hw15 hb19; have n0 := lift hw19 hd0; have n1 := lift hw19 hd1))
                go_roundw
                case measure => simp [intOf]; omega
                case rel => exact ⟨j + 1, z, by omega, rfl, by show _ = _; rw [manyTo_succ HX.out, if_neg (by omega), ← hz.out], by go_num, BP19, hb19⟩
            · obtain rfl : j = v.chests.n := by omega
              have hbr := HT2.out.brings
              rw [HLc.out, ← hz.out] at hbr
              have HPL : Hid (RdInts wl ⟨some ⟨W15.heap.size, 0, none⟩, v.chests.n, v.chests.n⟩ (List.replicate v.chests.n (k : Int))) := rd_box (f := fun x : Int => [.int .i64 x]) (sz := 1) (fun _ => rfl) BPj (fillC_full _ _) (by simp) (by omega)
              have hBR := fun v' W (hv : RdMkt W v' (m.at1 q k s)) (hp : RdInts W ⟨some ⟨W15.heap.size, 0, none⟩, v.chests.n, v.chests.n⟩ (List.replicate v.chests.n (k : Int))) => BringsP_any v' (m.at1 q k s) ⟨some ⟨W15.heap.size, 0, none⟩, v.chests.n, v.chests.n⟩ (List.replicate v.chests.n (k : Int)) W hv hp
              have hsz15 := hbj.size
              rcases hbr with ⟨hbr, hpr⟩ | hbr
              · rw [hbr] at hBR
                have HBR := Lib.hid hBR
                have hTR := fun W (hv : RdMkt W (at1V v sp ⟨some ⟨gs, 0, none⟩, ssn, ssc⟩) (m.at1 q k s)) => Truths10_any (at1V v sp ⟨some ⟨gs, 0, none⟩, ssn, ssc⟩) (m.at1 q k s) (MOk.of HT2.out.fault) W hv
                rw [hpr] at hTR
                have HTR := Lib.hid hTR
                clear hBR hTR hbr hpr
                go_wp2_with (first
                  | (go_at_call 26; refine (Market_any (at1V v sp ⟨some ⟨gs, 0, none⟩, ssn, ssc⟩) (m.at1 q k s) _ HML.out HSM.out).mono ?_; rintro e w17 ⟨v6, rfl, hfr6, hb17⟩) | (go_at_call 35; refine (HBR.out v6 _ hfr6.now (HPL.out.below (encR_mono _) hb17)).mono ?_; rintro e w18 ⟨rfl, hb18⟩; clear c0 c1 c2 c3 c4 c5 c6 c7 c8 c9 c10; obtain ⟨W20, hNW20, B20, hW20, hzW20⟩ := Box.named w18 #[.int .i64 0, .int .i64 0] 63; have r0 := B20.cell 0 (.int .i64 0) rfl; have r1 := B20.cell 1 (.int .i64 0) rfl; have f0 := B20.free 0; have f1 := B20.free 1) | (obtain ⟨W21, hW21⟩ : ∃ W21, (W20.setCell ⟨w18.heap.size, 0, none⟩ (.int .i64 0)).setCell ⟨w18.heap.size, 1, none⟩ (.int .i64 0) = W21 := ⟨_, rfl⟩; rw [hW21]; have hb21 : Below w18.heap.size w18 W21 := by { rw [← hW21]; exact below_set (below_set hW20 (Nat.le_refl _) _) (Nat.le_refl _) _ }; clear hW21 r0 r1 f0 f1 hNW20; have hb1521 := below_on (below_on (below_on hbj hb17) hb18) hb21; have q0 := (B15.lift hb1521).cell 0 (.int .i64 v.loft.last) rfl; have q1 := (B15.lift hb1521).cell 1 (.slice v.loft.air.a v.loft.air.n v.loft.air.c) rfl; have q2 := (B15.lift hb1521).cell 2 (.slice v.loft.shelves.a v.loft.shelves.n v.loft.shelves.c) rfl; have q3 := (B15.lift hb1521).cell 3 (.slice v.loft.cakes.a v.loft.cakes.n v.loft.cakes.c) rfl; have q4 := (B15.lift hb1521).cell 4 (.slice sp.a sp.n sp.c) rfl; have q5 := (B15.lift hb1521).cell 5 (.slice none 0 0) rfl; have q6 := (B15.lift hb1521).cell 6 (.slice (some ⟨gs, 0, none⟩) ssn ssc) rfl; have q7 := (B15.lift hb1521).cell 7 (.slice v.chests.a v.chests.n v.chests.c) rfl; have q8 := (B15.lift hb1521).cell 8 (.int .i64 v.step) rfl; have q9 := (B15.lift hb1521).cell 9 (.int .i64 4) rfl; have q10 := (B15.lift hb1521).cell 10 (.slice none 0 0) rfl)
                  | (go_at_call 55; refine (HTR.out _ (HM15.out.below hb1521)).mono ?_; rintro e w22 ⟨⟨sa, sn, sc⟩, rfl, hfr22, hb22⟩; have hn0 : sn = 0 := hfr22.now.len.symm; subst hn0)
                  | (go_at_call 50; refine (offered_ok _).mono ?_; rintro e w23 ⟨rfl, hb23⟩))
                go_ret
                exact ⟨rfl, below_on (below_on (below_on hw15 hb1521) hb22) hb23⟩
              · rw [hbr] at hBR
                simp only at hBR
                obtain ⟨cv, hcv⟩ : ∃ cv, s.price.lo * z = cv := ⟨_, rfl⟩
                rw [hcv] at hBR
                have HBR := Lib.hid hBR
                have hm1 : 0 * 0 ≤ s.price.lo * z := Int.mul_le_mul hlo.1 hzb.1 (by omega) (by omega)
                have hm2 : s.price.lo * z ≤ 20 * 20 := Int.mul_le_mul (by omega) hzb.2 (by omega) (by omega)
                have hwr : IntKind.i64.wrap (s.price.lo * z) = cv := (IntWalk.i64_in _ (by omega)).trans hcv
                have hrg := fun w => rg63_eql cv cv cv cv w
                simp only [beq_self_eq_true, Bool.and_self] at hrg
                clear hBR hbr hm1 hm2 hcv
                go_wp2_with (first
                  | (go_at_call 26; refine (Market_any (at1V v sp ⟨some ⟨gs, 0, none⟩, ssn, ssc⟩) (m.at1 q k s) _ HML.out HSM.out).mono ?_; rintro e w17 ⟨v6, rfl, hfr6, hb17⟩) | (go_at_call 35; refine (HBR.out v6 _ hfr6.now (HPL.out.below (encR_mono _) hb17)).mono ?_; rintro e w18 ⟨rfl, hb18⟩; clear c0 c1 c2 c3 c4 c5 c6 c7 c8 c9 c10; obtain ⟨W20, hNW20, B20, hW20, hzW20⟩ := Box.named w18 #[.int .i64 0, .int .i64 0] 63; have r0 := B20.cell 0 (.int .i64 0) rfl; have r1 := B20.cell 1 (.int .i64 0) rfl; have f0 := B20.free 0; have f1 := B20.free 1) | (obtain ⟨W21, hW21⟩ : ∃ W21, (W20.setCell ⟨w18.heap.size, 0, none⟩ (.int .i64 cv)).setCell ⟨w18.heap.size, 1, none⟩ (.int .i64 cv) = W21 := ⟨_, rfl⟩; rw [hW21]; have hb21 : Below w18.heap.size w18 W21 := by { rw [← hW21]; exact below_set (below_set hW20 (Nat.le_refl _) _) (Nat.le_refl _) _ }; have B21 := (B20.set 0 (.int .i64 cv)).set 1 (.int .i64 cv); rw [hW21] at B21; clear hW21 r0 r1 f0 f1 hNW20; have hb1521 := below_on (below_on (below_on hbj hb17) hb18) hb21; have y0 := B21.cell 0 (.int .i64 cv) rfl; have y1 := B21.cell 1 (.int .i64 cv) rfl)
                  | (go_at_call 50; refine (offered_ok _).mono ?_; rintro e w23 ⟨rfl, hb23⟩))
                go_ret
                exact ⟨rfl, below_on (below_on hw15 hb1521) hb23⟩
end Go.Proofs.YtenfnakhijobkaaGreat
namespace Go.Proofs.YtenfnakhijobkaaGreat
theorem topOffered_walk (v : MktV) (m : MktD) (w : World) (h : RdMkt w v m) : Calls Tryz.prog 8 #[.agg v.cs] w (TopOut w) := by
  by_cases hc : m.thin = true ∧ mktFault m = 0 ∧ m.chests.length ≠ 0
  · exact TopB v m w h hc.1 hc.2.1 hc.2.2
  · exact TopA v m w h hc
end Go.Proofs.YtenfnakhijobkaaGreat
namespace Go.Proofs.YtenfnakhijobkaaGreat.topOffered
open Go.RowKit Go.ChangeShapes Go.WideShapes Go.ChangeAt
open Go.Proofs.YtenfnakhijobkaaGreat
theorem own : ownKnob Tryz.prog.godebug = none := by kernel_rfl
theorem heavy9 : ((Rows.topOfferedRow.inPlace == Tryz.prog.inPlace 8)) = true := by kernel_rfl
theorem heavy10 : ((Rows.topOfferedRow.unfollowed == Tryz.prog.unfollowed 8)) = true := by kernel_rfl
theorem heavy11 : ((Rows.topOfferedRow.recurses == Tryz.prog.recurses 8)) = true := by kernel_rfl
theorem heavy12 : ((Rows.topOfferedRow.named == Tryz.prog.varsNamed 8)) = true := by kernel_rfl
theorem heavy18 : (Rows.topOfferedSpec.vars.all (Tryz.prog.varReadable ·)) = true := by kernel_rfl
set_option maxRecDepth 100000 in
theorem lifted (os : Os) (started : os.Started) (H : Type) (enc : TypeId × Value → H) :
    ReturnsInHanded {} Tryz.checked os 8 .any (Rows.topOfferedSpec.pre6 enc Tryz.prog Tryz.f8 Rows.topOfferedRow.domain false) (Rows.topOfferedSpec.post enc Tryz.prog Tryz.f8 false true false false) := by
  refine returnsInHanded_of_change_sized (C := Tryz.checked) own started (by kernel_rfl) Tryz.func8
    (ChangeSpec.witness6 (enc := enc) (C := Tryz.checked) false ⟨#[], #[.agg #[.int .i64 0, .slice none 0 0, .slice none 0 0, .slice none 0 0, .slice none 0 0, .slice none 0 0, .slice none 0 0, .slice none 0 0, .int .i64 0, .int .i64 0, .slice none 0 0]], []⟩ 8 (by kernel_rfl) (by kernel_rfl) (by kernel_rfl) (by kernel_rfl)) ?_
  intro W base args ds gs before hval0 hW hcnd hsz0 _
  have hsz : (DataW.weightsEach Tryz.prog (Tryz.f8.params.toList ++ Rows.topOfferedSpec.plain.varTypes Tryz.prog) (ds ++ gs)).all (· ≤ reachBytes) = true := hsz0
  have hval : ∀ (j : Nat) t v, Tryz.f8.params[j]? = some t → args[j]? = some v → Value.okWide Tryz.prog W .any base t v := hval0
  have hW' := hW
  obtain ⟨p, q, hA0, hV, rfl, hfz, hnd⟩ := hW
  have hA : DataW.TrodAll enc Tryz.prog W 0 (fun _ => true) true Tryz.f8.params.toList args.toList ds p := hA0
  rw [Tryz.params8] at hA hval hsz
  obtain ⟨v0, vs0, d0, ds0, p0, q0, hargs, rfl, rfl, h0, r0⟩ := trodAll_cons hA
  obtain ⟨rfl, rfl, rfl⟩ := trodAll_nil r0
  obtain rfl : args = #[v0] := by cases args; simp_all
  obtain ⟨rfl, rfl⟩ := trodVars_none hV
  have w0 : Wt Tryz.prog 33 d0 := fun n hn => by
    have := List.all_eq_true.1 hsz n (DataW.weights_mem_each (j := 0) (t := 33) (d := d0) rfl rfl n hn)
    simpa using this
  have k0 := h0
  have lt0 : ∀ x ∈ p0, x.block < W.heap.size := by obtain ⟨m, hm⟩ := k0; exact DataW.trod_lt m _ _ _ hm
  obtain ⟨mv0, m0, rfl, hr0⟩ := openArg_mkt (hval 0 33 v0 rfl rfl) h0 w0
  clear hA0 hval0 hsz0 hsz
  refine (topOffered_walk mv0 m0 W hr0).mono fun e W' ⟨he, bel⟩ => ?_
  subst he
  exact ⟨_, rfl, _, _, _, [], _, [], hW', trodAll_mk1 (shut_bool Tryz.underlying4 _), (trodAll_cons_mk (Below.trod closed1 (by kernel_rfl) (of_decide_eq_true (by kernel_rfl)) k0 bel lt0) trodAll_mk0), rfl, bel.frame _, fun h => by cases h⟩
theorem closed : joinedFacts Tryz.prog 8 Tryz.f8 Rows.topOfferedSpec Rows.topOfferedRow = true := by
  unfold joinedFacts
  exact (and_i (and_i (and_i (and_i (and_i (and_i (and_i (and_i (and_i (and_i (and_i (and_i (and_i (and_i (and_i (and_i (and_i (and_i (and_i (and_i (and_i (and_i (and_i (and_i (and_i (and_i (and_i (and_i (and_i (and_i (and_i (by kernel_rfl) closed1) closed2) (by kernel_rfl)) (by kernel_rfl)) (by kernel_rfl)) closed6) (by kernel_rfl)) closed8) heavy9) heavy10) heavy11) heavy12) (by kernel_rfl)) (by kernel_rfl)) (by kernel_rfl)) (by kernel_rfl)) (by kernel_rfl)) heavy18) (by kernel_rfl)) (by kernel_rfl)) (by kernel_rfl)) closed22) (by kernel_rfl)) closed24) closed25) closed26) closed27) (by kernel_rfl)) (by kernel_rfl)) (by kernel_rfl)) (by kernel_rfl))
theorem over : Rows.topOfferedRow.holds Tryz.pinned (OpenSpec.ofChange Rows.topOfferedSpec) :=
  OpenClaim.holds_of_wide 8 Tryz.f8 rfl rfl rfl rfl rfl rfl rfl ⟨rfl, rfl, rfl, rfl, rfl⟩ rfl rfl rfl rfl rfl (by kernel_rfl) Tryz.func8 closed
    (of_decide_eq_true (by kernel_rfl)) (by unfold Func.isWrapper; first | (rw [if_pos (by decide +kernel)]; kernel_rfl) | (rw [if_neg (by decide +kernel)]; exact ⟨rfl, rfl⟩))
    (fun os started H enc _ => lifted os started H enc)
theorem proved : Rows.TopOfferedSaid := over
#print axioms proved
end Go.Proofs.YtenfnakhijobkaaGreat.topOffered
namespace Go.Proofs.YtenfnakhijobkaaGreat
/-- The row, under a short name, for the claim. -/
theorem topOffered_holds : Rows.TopOfferedSaid := topOffered.proved
end Go.Proofs.YtenfnakhijobkaaGreat
