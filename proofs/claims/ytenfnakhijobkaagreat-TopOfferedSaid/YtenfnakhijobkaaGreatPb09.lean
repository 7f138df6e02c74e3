/- The error of a plan. Conditions: the market at work reads as it does. What a plan brings. Conditions: the market reads as it does and has no fault; prices are from 0 to 20; the plan names sales or none. The bounds of an answer in all truths of a market. Conditions: the market at work reads as it does. The bounds of what a plan brings. Conditions: the market and the plan read as they do. The reference's truths of a loft. Conditions: the loft reads as it does and has no fault. The reference's errors of markets. Conditions: the market reads as it does. The laws' own small functions. Conditions: the lists read as they do. -/
import Derived.Test.YtenfnakhijobkaaGreatPb02
import Derived.Test.YtenfnakhijobkaaGreatPb05
import Derived.Test.YtenfnakhijobkaaGreatPb06
import Derived.Test.YtenfnakhijobkaaGreatPb08
import Derived.Deep.DeepMust
import Derived.Laws.AppendOwnNone
set_option linter.unusedVariables false
set_option linter.unusedSimpArgs false
namespace Go.Proofs.YtenfnakhijobkaaGreat
open Go.RowKit Go.Proofs.YtenfnakhijobkaaGreatW.PrintLast
/-- What the test of a plan's numbers captures. -/
structure OfferIn (w : World) (Bx B S : Nat) : Prop where
  small : S ≤ 1000
  c0 : w.cell? ⟨Bx, 0, none⟩ = some (.pointer (some ⟨B, 0, none⟩))
  c6 : ∃ a c, w.cell? ⟨B, 6, none⟩ = some (.slice a S c)
theorem OfferIn.below {w w' : World} {Bx B S : Nat} (h : OfferIn w Bx B S) (hb : Below w.heap.size w w') : OfferIn w' Bx B S := ⟨h.small, lift hb h.c0, let ⟨a, c, hc⟩ := h.c6; ⟨a, c, lift hb hc⟩⟩
def inSales (S : Nat) (x : Int) : Bool := inB x (-1) ((S : Int) - 1)
theorem offeredFn_any (Bx B S : Nat) (x : Int) (w : World) (h : OfferIn w Bx B S) :
    Calls Tryz.prog 158 #[.int .i64 x, .pointer (some ⟨Bx, 0, none⟩)] w fun e w' => e = .returned (.bool (inSales S x)) ∧ Below w.heap.size w w' := by
  obtain ⟨a, c, c6⟩ := h.c6
  have c0 := h.c0
  have hs := h.small
  go_enter Tryz.func158, Tryz.ntmps158
  go_wp2_with (go_at_call 129; refine (withinM_any _ _ _ _).mono ?_; rintro e w' ⟨rfl, rfl⟩)
  go_ret
  exact ⟨rfl, Below.refl _ _⟩

theorem all_plan_clo (Bx Bw S : Nat) (B : Nat) (x : Int) (w : World) (hB : w.cell? ⟨B, 0, none⟩ = some (.func (.func 158) #[] #[.pointer (some ⟨Bx, 0, none⟩)])) (hV : OfferIn w Bx Bw S) :
    Calls Tryz.prog 186 #[.int .i64 x, .pointer (some ⟨B, 0, none⟩)] w fun e w' => e = .returned (.bool (!(inSales S) x)) ∧ Below w.heap.size w w' := by
  have hb0 := World.block_lt_of_cell? w ⟨B, 0, none⟩ hB
  go_enter Tryz.func186, Tryz.ntmps186
  go_wp2_with (go_at_call 158; refine (offeredFn_any Bx Bw S _ _ hV).mono ?_; rintro e w' ⟨rfl, hb⟩)
  go_ret
  exact ⟨rfl, hb⟩
theorem all_plan_idx (Bx Bw S : Nat) (B : Nat) (s : Sl) (xs : List Int) (w : World) (h : Rd (encR (fun x : Int => [Value.int .i64 x])) 1 w s xs) (hB : w.cell? ⟨B, 0, none⟩ = some (.func (.func 158) #[] #[.pointer (some ⟨Bx, 0, none⟩)])) (hV : OfferIn w Bx Bw S) :
    Calls Tryz.prog 202 #[.slice s.a s.n s.c, .func (.func 186) #[] #[.pointer (some ⟨B, 0, none⟩)]] w fun e w' => ∃ r : Int, e = .returned (.int .i64 r) ∧ decide (0 ≤ r) = (!xs.all (inSales S)) ∧ Below w.heap.size w w' := by
  obtain ⟨sa, sn, sc⟩ := s
  have hs : sn ≤ 281474976710656 := by have := h.small; simp at this; omega
  have HL : Hid (xs.length = sn) := h.len
  go_enter Tryz.func202, Tryz.ntmps202
  go_wp2
  go_loopw [8] (fun i wr => ∃ k : Nat, k ≤ sn ∧ i = .int .i64 k ∧ Hid ((xs.take k).all (inSales S) = true) ∧ Below w.heap.size w wr) (fun i _ => sn - (intOf i).toNat)
  case atStart => exact ⟨0, Nat.zero_le _, rfl, by simp [Hid], Below.refl _ _⟩
  case round =>
    obtain ⟨k, hk, rfl, hq, hb⟩ := hrel
    by_cases hlt : k < sn
    · obtain ⟨x, hx⟩ := at_of_lt HL.out hlt
      obtain ⟨b, o, ha, hbl, hc0⟩ := h.int_at hx
      have hc0 := lift hb hc0
      have HX := Lib.hid hx
      simp only at ha
      subst ha
      clear hx
      have HB := Lib.hid (lift hb hB)
      have hR := all_plan_clo Bx Bw S B x wr HB.out (hV.below hb)
      cases hp : (inSales S) x
      all_goals rw [hp] at hR
      all_goals have HP := Lib.hid hp
      all_goals clear hp
      · go_wp2_with (go_at_call 186; refine hR.mono ?_; rintro e w1 ⟨rfl, hb1⟩)
        go_ret
        exact ⟨k, rfl, by rw [all_of_at _ HX.out HP.out, decide_eq_true (by omega)]; rfl, below_on hb hb1⟩
      · go_wp2_with (go_at_call 186; refine hR.mono ?_; rintro e w1 ⟨rfl, hb1⟩)
        go_roundw
        case rel => exact ⟨k + 1, by omega, by go_num, by
          show (xs.take (k + 1)).all _ = true
          rw [take_all _ HX.out, hq.out, HP.out]; rfl, below_on hb hb1⟩
        case measure => simp [intOf]; omega
    · obtain rfl : k = sn := by omega
      have HQ : Hid (xs.all (inSales S) = true) := by
        have h1 := hq.out
        rwa [take_len HL.out] at h1
      clear hq
      go_wp2
      go_ret
      exact ⟨-1, rfl, by rw [HQ.out]; rfl, hb⟩
theorem all_plan_cont (Bx Bw S : Nat) (B : Nat) (s : Sl) (xs : List Int) (w : World) (h : Rd (encR (fun x : Int => [Value.int .i64 x])) 1 w s xs) (hB : w.cell? ⟨B, 0, none⟩ = some (.func (.func 158) #[] #[.pointer (some ⟨Bx, 0, none⟩)])) (hV : OfferIn w Bx Bw S) :
    Calls Tryz.prog 185 #[.slice s.a s.n s.c, .func (.func 186) #[] #[.pointer (some ⟨B, 0, none⟩)]] w fun e w' => e = .returned (.bool (!xs.all (inSales S))) ∧ Below w.heap.size w w' := by
  go_enter Tryz.func185, Tryz.ntmps185
  go_wp2_with (go_at_call 202; refine (all_plan_idx Bx Bw S B s xs _ h hB hV).mono ?_; rintro e w1 ⟨r, rfl, hr, hb1⟩; have HR := Lib.hid hr; clear hr)
  go_ret
  exact ⟨ret_bool HR.out, hb1⟩
theorem all_plan_all (Bx Bw S : Nat) (s : Sl) (xs : List Int) (w : World) (h : Rd (encR (fun x : Int => [Value.int .i64 x])) 1 w s xs) (hV : OfferIn w Bx Bw S) :
    Calls Tryz.prog 157 #[.slice s.a s.n s.c, (.func (.func 158) #[] #[.pointer (some ⟨Bx, 0, none⟩)])] w fun e w' => e = .returned (.bool (xs.all (inSales S))) ∧ Below w.heap.size w w' := by
  go_enter Tryz.func157, Tryz.ntmps157
  go_wp2_with (go_at_call 185; obtain ⟨W0, hNW0, BX, hW0, hzW0⟩ := Box.named w #[(.func (.func 158) #[] #[.pointer (some ⟨Bx, 0, none⟩)])] 141; rw [hNW0]; clear hNW0; refine (all_plan_cont Bx Bw S w.heap.size s xs _ (h.below (encR_mono _) hW0) (BX.cell 0 _ rfl) (hV.below hW0)).mono ?_; rintro e w1 ⟨rfl, hb1⟩)
  go_ret
  exact ⟨ret_bool (by simp), below_on hW0 hb1⟩

def isPlanS (m : MktD) (plan : List Int) : Bool := decide (plan.length = m.chests.length) && plan.all (inSales m.sales.length)
def offS (m : MktD) (plan : List Int) : Int := if isPlanS m plan = false then 2 else if possS m plan = false then 9 else 0
theorem isPlanS_bd {m : MktD} {plan : List Int} (h : isPlanS m plan = true) : plan.length = m.chests.length ∧ ∀ x ∈ plan, -1 ≤ x ∧ x < m.sales.length := by
  simp only [isPlanS, Bool.and_eq_true, decide_eq_true_eq, List.all_eq_true, inSales, inB_iff] at h
  exact ⟨h.1, fun x hx => by have := h.2 x hx; omega⟩
set_option maxHeartbeats 4000000 in
set_option maxRecDepth 100000 in
theorem offered_any (B r : Nat) (v : MktV) (m : MktD) (s : Sl) (hm : MOk m) (sp : Sl) (plan : List Int) (w : World) (h : SaleWk w B r v m s) (hp : RdInts w sp plan) :
    Calls Tryz.prog 124 #[.pointer (some ⟨B, 0, none⟩), .slice sp.a sp.n sp.c] w fun e w' => e = .returned (.int .i64 (offS m plan)) ∧ Below w.heap.size w w' := by
  have HL : Hid (plan.length = sp.n) := hp.len
  have HLc : Hid (m.chests.length = v.chests.n) := h.mkt.chests.len
  have HLs : Hid (m.sales.length = v.sales.n) := h.mkt.sales.len
  have hs4 : v.sales.n ≤ 4 := by have := hm.s4; have := HLs.out; omega
  have hc4 : v.chests.n ≤ 4 := by have := hm.c4; have := HLc.out; omega
  have hsp : sp.n ≤ 281474976710656 := by have := hp.small; omega
  obtain ⟨W0, hNW0, BX, hW0, hzW0⟩ := Box.named w #[.pointer (some ⟨B, 0, none⟩)] 138
  have p0 := BX.cell 0 (.pointer (some ⟨B, 0, none⟩)) rfl
  have HWK := Lib.hid (h.below hW0)
  have c7 := HWK.out.cells 7 (.slice v.chests.a v.chests.n v.chests.c) rfl
  by_cases hl : sp.n = v.chests.n
  · have hnb : ((sp.n : Int) != (v.chests.n : Int)) = false := by simp [hl]
    have hin : OfferIn W0 w.heap.size B v.sales.n := ⟨by omega, p0, ⟨_, _, HWK.out.cells 6 (.slice v.sales.a v.sales.n v.sales.c) rfl⟩⟩
    have HALL := Lib.hid (all_plan_all w.heap.size B v.sales.n sp plan W0 (hp.below (encR_mono _) hW0) hin)
    have HPL : Hid (isPlanS m plan = plan.all (inSales v.sales.n)) := by show _ = _; rw [isPlanS, HL.out, HLc.out, HLs.out, decide_eq_true hl, Bool.true_and]
    have HL2 := Lib.hid hl
    obtain ⟨pn, hpn⟩ : ∃ pn, plan.all (inSales v.sales.n) = pn := ⟨_, rfl⟩
    rw [hpn] at HALL HPL
    clear hpn hl hin
    cases pn
    · have HE : Hid (offS m plan = 2) := by show _ = _; rw [offS, if_pos HPL.out]
      go_enter Tryz.func124, Tryz.ntmps124
      go_wp2_with (go_at_call 157; refine HALL.out.mono ?_; rintro e w1 ⟨rfl, hb1⟩)
      go_ret
      exact ⟨ret_int HE.out.symm, below_on hW0 hb1⟩
    · obtain ⟨hpl, hpb⟩ := isPlanS_bd HPL.out
      have HPO := Lib.hid fun w' (hb : Below W0.heap.size W0 w') => possible_any B r v m s hm sp plan (by omega) hpb w' (HWK.out.below hb) (hp.below (encR_mono _) (below_on hW0 hb))
      have HE : Hid (offS m plan = if possS m plan = false then 9 else 0) := by show _ = _; rw [offS, if_neg (by rw [HPL.out]; simp)]
      obtain ⟨po, hpo⟩ : ∃ po, possS m plan = po := ⟨_, rfl⟩
      rw [hpo] at HPO HE
      clear hpo hpl hpb
      cases po
      all_goals
        go_enter Tryz.func124, Tryz.ntmps124
        go_wp2_with (first | (go_at_call 157; refine HALL.out.mono ?_; rintro e w1 ⟨rfl, hb1⟩; have p1 := lift hb1 p0) | (go_at_call 145; refine (HPO.out _ hb1).mono ?_; rintro e w2 ⟨rfl, hb2⟩))
        go_ret
        exact ⟨ret_int (by rw [HE.out]; rfl), below_on (below_on hW0 hb1) hb2⟩
  · have hnb : ((sp.n : Int) != (v.chests.n : Int)) = true := by simp; omega
    have HE : Hid (offS m plan = 2) := by show _ = _; rw [offS, if_pos (by rw [isPlanS, HL.out, HLc.out, decide_eq_false hl]; rfl)]
    clear hl
    go_enter Tryz.func124, Tryz.ntmps124
    go_wp2
    go_ret
    exact ⟨ret_int HE.out.symm, hW0⟩
end Go.Proofs.YtenfnakhijobkaaGreat
namespace Go.Proofs.YtenfnakhijobkaaGreat
open Go.RowKit Go.Proofs.YtenfnakhijobkaaGreatW.PrintLast
def termS (m : MktD) (f : Nat → Int) (i : Nat) (s : Int) : Int := if soldF m f i s then f s.toNat * (match m.chests[i]? with | some c => (c.cakes.length : Int) | none => 0) else 0
def sumTo (m : MktD) (f : Nat → Int) (plan : List Int) : Nat → Int
  | 0 => 0
  | k + 1 => sumTo m f plan k + termS m f k (plan.getD k 0)
def sumS (m : MktD) (f : Nat → Int) (plan : List Int) : Int := sumTo m f plan plan.length
theorem cakesLast_len {n : Int} {l : List Int} : ∀ {k : Nat} {last : Int}, k ≤ l.length → cakesLast n (l.take k) = some last → (k : Int) ≤ last + 1
  | 0, last, _, h => by simp [cakesLast] at h; omega
  | k + 1, last, hk, h => by
    have hx : l[k]? = some l[k] := List.getElem?_eq_getElem (by omega)
    rw [cakesLast_at hx] at h
    cases h2 : cakesLast n (l.take k) with
    | none => rw [h2] at h; cases h
    | some q =>
      rw [h2] at h
      have ih := cakesLast_len (k := k) (by omega) h2
      simp only [cakeStep, Option.bind_some] at h
      split at h
      · rename_i h3
        rw [inB_iff] at h3
        cases h
        omega
      · cases h
theorem MOk.cakesLen {m : MktD} (hm : MOk m) {c : ChestD} (hc : c ∈ m.chests) : c.cakes.length ≤ 5 := by
  have h1 := hm.chests c hc
  simp only [chestOk, Bool.and_eq_true] at h1
  have h2 := h1.1
  unfold areCakes at h2
  cases h3 : cakesLast m.loft.cakes.length c.cakes with
  | none => rw [h3] at h2; cases h2
  | some last =>
    have h4 := cakesLast_len (l := c.cakes) (k := c.cakes.length) (Nat.le_refl _) (by rw [List.take_length]; exact h3)
    have h5 := cLast_hi (l := c.cakes) (k := c.cakes.length) (by rw [List.take_length]; exact h3)
    have := hm.loft.cakes5
    omega
set_option maxHeartbeats 4000000 in
set_option maxRecDepth 100000 in
theorem sum_any (v : MktV) (m : MktD) (hm : MOk m) (f : Nat → Int) (hf : ∀ j, j < 4 → 0 ≤ f j ∧ f j ≤ 20) (sp : Sl) (plan : List Int) (hpl : plan.length ≤ m.chests.length) (hpb : ∀ x ∈ plan, -1 ≤ x ∧ x < m.sales.length) (w : World) (h : RdMkt w v m) (hp : RdInts w sp plan) :
    Calls Tryz.prog 125 #[.agg v.cs, .agg (prC f), .slice sp.a sp.n sp.c] w fun e w' => e = .returned (.int .i64 (sumS m f plan)) ∧ Below w.heap.size w w' := by
  obtain ⟨pa, pn, pc⟩ := sp
  have HL : Hid (plan.length = pn) := hp.len
  have hn4 : pn ≤ 4 := by have := hm.c4; have := HL.out; omega
  have hs4 := hm.s4
  have HE : Hid (sumS m f plan = sumTo m f plan pn) := by show _ = _; rw [sumS, HL.out]
  have HPB := Lib.hid hpb
  have HFB := Lib.hid hf
  have HLC : Hid (pn ≤ m.chests.length) := by show _ ≤ _; rw [← HL.out]; exact hpl
  clear hpb hf hpl
  obtain ⟨W0, hNW0, BX, hW0, hzW0⟩ := Box.named w v.cs 49
  obtain ⟨W1, hNW1, BX1, hW1, hzW1⟩ := Box.named W0 (prC f) 167
  have hw1 := below_on hW0 hW1
  go_enter Tryz.func125, Tryz.ntmps125
  go_wp2
  clear hNW0 hNW1
  go_loopw [6, 11] (fun sm i wr => ∃ (k : Nat) (z : Int), k ≤ pn ∧ i = .int .i64 k ∧ sm = .int .i64 z ∧ 0 ≤ z ∧ z ≤ 100 * k ∧ Hid (z = sumTo m f plan k) ∧ Below W1.heap.size W1 wr) (fun _ i _ => pn - (intOf i).toNat)
  case atStart => exact ⟨0, 0, Nat.zero_le _, rfl, rfl, by omega, by omega, rfl, Below.refl _ _⟩
  case round =>
    obtain ⟨k, z, hk, rfl, rfl, hz0, hz1, hq, hb⟩ := hrel
    have hw := below_on hw1 hb
    by_cases hlt : k < pn
    · obtain ⟨x, hx⟩ := at_of_lt HL.out hlt
      obtain ⟨pb, po, hpa, hpbl, hpc⟩ := (hp.below (encR_mono _) hw).int_at hx
      have hxb := HPB.out x (List.mem_of_getElem? hx)
      have hgd : plan.getD k 0 = x := by rw [List.getD_eq_getElem?_getD, hx]; rfl
      have HST : Hid (sumTo m f plan (k + 1) = z + termS m f k x) := by show _ = _; rw [sumTo, hgd, hq.out]
      simp only at hpa
      subst hpa
      have hkc : k < m.chests.length := by have := HLC.out; omega
      obtain ⟨c, hc⟩ : ∃ c, m.chests[k]? = some c := ⟨_, List.getElem?_eq_getElem hkc⟩
      have hcl := hm.cakesLen (List.mem_of_getElem? hc)
      have HTM : Hid (termS m f k x = if soldF m f k x then f x.toNat * (c.cakes.length : Int) else 0) := by show _ = _; rw [termS, hc]
      have hS := Lib.hid fun w' (hb' : Below w.heap.size w w') => sold_any v m f k c x w' (h.below hb') hc (by have := hm.c4; omega) (by omega)
      have hck : k < v.chests.n := by rw [← h.chests.len]; exact hkc
      obtain ⟨b, o, t, ha, hbl, hc0, hc1, hrd⟩ := h.chests.chest_at hc
      obtain ⟨ta, tn, tc⟩ := t
      have htl : c.cakes.length = tn := hrd.len
      rw [htl] at HTM hcl
      have hc0 := lift hw hc0
      have d0 := ((BX.lift hW1).lift hb).cell 0 (.int .i64 v.loft.last) rfl; have d1 := ((BX.lift hW1).lift hb).cell 1 (.slice v.loft.air.a v.loft.air.n v.loft.air.c) rfl; have d2 := ((BX.lift hW1).lift hb).cell 2 (.slice v.loft.shelves.a v.loft.shelves.n v.loft.shelves.c) rfl; have d3 := ((BX.lift hW1).lift hb).cell 3 (.slice v.loft.cakes.a v.loft.cakes.n v.loft.cakes.c) rfl; have d4 := ((BX.lift hW1).lift hb).cell 4 (.slice v.loft.put.a v.loft.put.n v.loft.put.c) rfl; have d5 := ((BX.lift hW1).lift hb).cell 5 (.slice v.loft.weights.a v.loft.weights.n v.loft.weights.c) rfl; have d6 := ((BX.lift hW1).lift hb).cell 6 (.slice v.sales.a v.sales.n v.sales.c) rfl; have d7 := ((BX.lift hW1).lift hb).cell 7 (.slice v.chests.a v.chests.n v.chests.c) rfl; have d8 := ((BX.lift hW1).lift hb).cell 8 (.int .i64 v.step) rfl; have d9 := ((BX.lift hW1).lift hb).cell 9 (.int .i64 v.lots) rfl; have d10 := ((BX.lift hW1).lift hb).cell 10 (.slice v.notes.a v.notes.n v.notes.c) rfl
      have n0 := (BX1.lift hb).cell 0 (.int .i64 (f 0)) rfl
      have n1 := (BX1.lift hb).cell 1 (.int .i64 (f 1)) rfl
      have n2 := (BX1.lift hb).cell 2 (.int .i64 (f 2)) rfl
      have n3 := (BX1.lift hb).cell 3 (.int .i64 (f 3)) rfl
      have HA := Lib.hid ha
      obtain ⟨sd, hsd⟩ : ∃ sd, soldF m f k x = sd := ⟨_, rfl⟩
      have hxne : sd = true → 0 ≤ x := fun e => by
        rw [e] at hsd
        unfold soldF at hsd
        by_cases h1 : x = -1
        · subst h1; simp at hsd
        · omega
      rw [hsd] at HTM hS
      clear hx hgd hc ha htl hsd
      cases sd
      · go_wp2_with (go_at_call 97; refine (hS.out _ hw).mono ?_; rintro e w3 ⟨rfl, hb3⟩)
        go_roundw
        case measure => simp [intOf]; omega
        case rel => exact ⟨k + 1, z, by omega, by go_num, rfl, hz0, by omega, by show _ = _; rw [HST.out, HTM.out]; simp, below_on hb hb3⟩
      · obtain ⟨sn, rfl⟩ := Int.eq_ofNat_of_zero_le (hxne rfl)
        have hsn4 : sn < 4 := by omega
        have hfb := HFB.out sn hsn4
        have ns := (BX1.lift hb).cell sn _ (prC_at f hsn4)
        obtain ⟨y, hy⟩ : ∃ y, f sn = y := ⟨_, rfl⟩
        have HTM2 : Hid (termS m f k (sn : Int) = y * (tn : Int)) := by show _ = _; rw [HTM.out, if_pos rfl, Int.toNat_natCast, hy]
        rw [hy] at ns hfb
        have hm1 : 0 ≤ y * (tn : Int) := Int.mul_nonneg (by omega) (by omega)
        have hm2 : y * (tn : Int) ≤ 20 * 5 := Int.mul_le_mul (by omega) (by omega) (by omega) (by omega)
        clear hy hxne HTM
        go_wp2_with (go_at_call 97; refine (hS.out _ hw).mono ?_; rintro e w3 ⟨rfl, hb3⟩)
        have e7 := lift hb3 d7
        rw [HA.out] at e7
        have en := lift hb3 ns
        have ec := lift hb3 hc0
        have hw1 : IntKind.i64.wrap (y * (tn : Int)) = y * (tn : Int) := IntWalk.i64_in _ (by omega)
        have hw2 : IntKind.i64.wrap (z + y * (tn : Int)) = z + y * (tn : Int) := IntWalk.i64_in _ (by omega)
        have hsi : (0 : Int) ≤ (sn : Int) := by omega
        have hsj : (sn : Int) < 4 := by omega
        have zz0 := fun x : After w3 => At.cell e7 x
        have zz1 := fun x : After w3 => At.cell en x
        have zz2 := fun x : After w3 => At.cell ec x
        refine wp_region_after (by kernel_rfl) (by kernel_rfl) ?_
        repeat (go_big_quiet_step ((fail)))
        refine wpQuiet_nil ?_
        intro W4 hbW4
        clear zz0 zz1 zz2
        clear hw1 hw2
        go_wp2
        go_roundw
        case measure => simp [intOf]; omega
        case rel => exact ⟨k + 1, z + y * (tn : Int), by omega, by go_num, rfl, by omega, by omega, by show _ = _; rw [HST.out, HTM2.out], below_on (below_on hb hb3) hbW4⟩
    · obtain rfl : k = pn := by omega
      go_wp2
      go_ret
      exact ⟨ret_int (by rw [HE.out, hq.out]), hw⟩
end Go.Proofs.YtenfnakhijobkaaGreat
namespace Go.Proofs.YtenfnakhijobkaaGreat
open Go.RowKit Go.Proofs.YtenfnakhijobkaaGreatW.PrintLast
theorem price_any (B : Nat) (f : Nat → Int) (s : Nat) (hs : s < 4) (x : Value) (w : World) :
    Calls Tryz.prog 93 #[.pointer (some ⟨B, 0, none⟩), .agg (prC f), .int .i64 s, x] w fun e w' => e = .returned (.int .i64 (f s)) ∧ Below w.heap.size w w' := by
  obtain ⟨W0, hNW0, BX, hW0, hzW0⟩ := Box.named w (prC f) 167
  have n0 := BX.cell s _ (prC_at f hs)
  go_enter Tryz.func93, Tryz.ntmps93
  go_wp2
  go_ret
  exact ⟨rfl, hW0⟩
theorem brought_any (B r : Nat) (v : MktV) (m : MktD) (ss : Sl) (hm : MOk m) (f : Nat → Int) (hf : ∀ j, j < 4 → 0 ≤ f j ∧ f j ≤ 20) (sp : Sl) (plan : List Int) (hpl : plan.length ≤ m.chests.length) (hpb : ∀ x ∈ plan, -1 ≤ x ∧ x < m.sales.length) (s : Int) (w : World) (h : SaleWk w B r v m ss) (hp : RdInts w sp plan) :
    Calls Tryz.prog 142 #[.pointer (some ⟨B, 0, none⟩), .agg (prC f), .int .i64 s, .slice sp.a sp.n sp.c] w fun e w' => e = .returned (.int .i64 (sumS m f plan)) ∧ Below w.heap.size w w' := by
  obtain ⟨W0, hNW0, BX, hW0, hzW0⟩ := Box.named w (prC f) 167
  have n0 := BX.cell 0 (.int .i64 (f 0)) rfl
  have n1 := BX.cell 1 (.int .i64 (f 1)) rfl
  have n2 := BX.cell 2 (.int .i64 (f 2)) rfl
  have n3 := BX.cell 3 (.int .i64 (f 3)) rfl
  have hW := h.below hW0
  have c0 := hW.cells 0 (.int .i64 v.loft.last) rfl
  have c1 := hW.cells 1 (.slice v.loft.air.a v.loft.air.n v.loft.air.c) rfl
  have c2 := hW.cells 2 (.slice v.loft.shelves.a v.loft.shelves.n v.loft.shelves.c) rfl
  have c3 := hW.cells 3 (.slice v.loft.cakes.a v.loft.cakes.n v.loft.cakes.c) rfl
  have c4 := hW.cells 4 (.slice v.loft.put.a v.loft.put.n v.loft.put.c) rfl
  have c5 := hW.cells 5 (.slice v.loft.weights.a v.loft.weights.n v.loft.weights.c) rfl
  have c6 := hW.cells 6 (.slice v.sales.a v.sales.n v.sales.c) rfl
  have c7 := hW.cells 7 (.slice v.chests.a v.chests.n v.chests.c) rfl
  have c8 := hW.cells 8 (.int .i64 v.step) rfl
  have c9 := hW.cells 9 (.int .i64 v.lots) rfl
  have c10 := hW.cells 10 (.slice v.notes.a v.notes.n v.notes.c) rfl
  have HS := Lib.hid fun (y : After W0) => sum_any v m hm f hf sp plan hpl hpb (At y) ((h.mkt.below hW0).below (At.below y)) ((hp.below (encR_mono _) hW0).below (encR_mono _) (At.below y))
  clear hW
  go_enter Tryz.func142, Tryz.ntmps142
  go_wp2
  have zz0 := fun x : After W0 => At.cell c0 x
  have zz1 := fun x : After W0 => At.cell c1 x
  have zz2 := fun x : After W0 => At.cell c2 x
  have zz3 := fun x : After W0 => At.cell c3 x
  have zz4 := fun x : After W0 => At.cell c4 x
  have zz5 := fun x : After W0 => At.cell c5 x
  have zz6 := fun x : After W0 => At.cell c6 x
  have zz7 := fun x : After W0 => At.cell c7 x
  have zz8 := fun x : After W0 => At.cell c8 x
  have zz9 := fun x : After W0 => At.cell c9 x
  have zz10 := fun x : After W0 => At.cell c10 x
  have zz11 := fun x : After W0 => At.cell n0 x
  have zz12 := fun x : After W0 => At.cell n1 x
  have zz13 := fun x : After W0 => At.cell n2 x
  have zz14 := fun x : After W0 => At.cell n3 x
  refine wp_region_after (by kernel_rfl) (by kernel_rfl) ?_
  repeat (go_big_quiet_step ((go_at_call 125; exact after_call (HS.out _))))
  refine wpQuiet_nil ?_
  intro W2 hbW2
  clear zz0 zz1 zz2 zz3 zz4 zz5 zz6 zz7 zz8 zz9 zz10 zz11 zz12 zz13 zz14
  go_wp2
  go_ret
  exact ⟨rfl, below_on hW0 hbW2⟩
theorem lexM_bd {m : MktD} (hm : MOk m) {l : List Int} (hl : l ∈ lexM m) : l.length = m.sales.length ∧ ∀ j, j < 4 → 0 ≤ l.getD j 0 ∧ l.getD j 0 ≤ 20 := by
  have h1 := (mem_enumP.1 (List.mem_filter.1 hl).1).1
  have h2 : m.prs.length = m.sales.length := by simp [MktD.prs]
  refine ⟨by rw [h1.len, h2], fun j _ => ?_⟩
  rw [List.getD_eq_getElem?_getD]
  cases hx : l[j]? with
  | none => simp
  | some x =>
    have hj : j < m.prs.length := by rw [← h1.len]; exact lt_of_at hx
    obtain ⟨y, hy, a, b⟩ := h1.at (List.getElem?_eq_getElem hj)
    rw [hx] at hy
    cases hy
    have := hm.prsOk _ (List.getElem_mem hj)
    simp only [Option.getD_some]
    omega
set_option maxHeartbeats 4000000 in
set_option maxRecDepth 100000 in
theorem boundsM_any (B r : Nat) (v : MktV) (m : MktD) (ss : Sl) (hm : MOk m) (g : Nat) (hg : ∀ args w, (callFunc g args).run Tryz.prog w = .ok (.enter g args) w) (s : Int) (sp : Sl) (qf : List Int → Int) (w : World) (h : SaleWk w B r v m ss)
    (hq : ∀ l ∈ lexM m, ∀ w', Below w.heap.size w w' → Calls Tryz.prog g #[.pointer (some ⟨B, 0, none⟩), .agg (arrP l), .int .i64 s, .slice sp.a sp.n sp.c] w' fun e w'' => e = .returned (.int .i64 (qf l)) ∧ Below w'.heap.size w' w'') :
    Calls Tryz.prog 94 #[.agg #[.func (.func g) #[] #[]], .pointer (some ⟨B, 0, none⟩), .int .i64 s, .slice sp.a sp.n sp.c] w fun e w' => e = .returned (.agg (bndL ((lexM m).map qf)).cs.toArray) ∧ Below w.heap.size w w' := by
  obtain ⟨ta, tn, tc⟩ := ss
  have HLt : Hid ((lexM m).length = tn) := h.ts.len
  have htn : tn ≤ 281474976710656 := by have := h.ts.small; simp at this; omega
  have HQ := Lib.hid hq
  clear hq
  obtain ⟨W0, hNW0, BX, hW0, hzW0⟩ := Box.named w #[.func (.func g) #[] #[]] 162
  obtain ⟨W1, hNW1, BX1, hW1, hzW1⟩ := Box.named W0 #[.int .i64 0, .int .i64 0] 63
  have hw1 := below_on hW0 hW1
  have c12 := lift hw1 h.c12
  simp only at c12
  go_enter Tryz.func94, Tryz.ntmps94
  go_wp2
  clear hNW0 hNW1 c12
  go_loopw [17] (fun i wr => ∃ q : Nat, ∃ lo hi : Int, q ≤ tn ∧ i = .int .i64 q ∧ Box wr W0.heap.size #[.int .i64 lo, .int .i64 hi] 63 ∧ Hid ((⟨lo, hi⟩ : Rg) = bndL (((lexM m).take q).map qf)) ∧ Below W0.heap.size W0 wr) (fun i _ => tn - (intOf i).toNat)
  case atStart => exact ⟨0, 0, 0, Nat.zero_le _, rfl, BX1, by show _ = _; simp [bndL], hW1⟩
  case round =>
    obtain ⟨q, lo, hi, hqn, rfl, BR, hbd, hb⟩ := hrel
    have hw := below_on hW0 hb
    by_cases hlt : q < tn
    · obtain ⟨l, hl⟩ := at_of_lt HLt.out hlt
      obtain ⟨b, o, cs, ha, hbl, hll, hcs, hcc⟩ := (h.below hw).ts.cells q l hl
      cases hcs
      simp only at ha
      subst ha
      have hQ := HQ.out l (List.mem_of_getElem? hl)
      have HL := Lib.hid hl
      obtain ⟨f, hf⟩ : ∃ f, (fun j => l.getD j 0) = f := ⟨_, rfl⟩
      rw [arrP, hf] at hQ
      have HF := Lib.hid hf
      clear hf hl hll
      have n0 : wr.cell? ⟨b, o + q * 4, none⟩ = some (.int .i64 (f 0)) := hcc 0 (.int .i64 (f 0)) (by rw [← HF.out]; rfl)
      have n1 := hcc 1 (.int .i64 (f 1)) (by rw [← HF.out]; rfl)
      have n2 := hcc 2 (.int .i64 (f 2)) (by rw [← HF.out]; rfl)
      have n3 := hcc 3 (.int .i64 (f 3)) (by rw [← HF.out]; rfl)
      obtain ⟨W3, hNW3, BX3, hW3, hzW3⟩ := Box.named wr (prC f) 167
      have m0 := BX3.cell 0 (.int .i64 (f 0)) rfl
      have m1 := BX3.cell 1 (.int .i64 (f 1)) rfl
      have m2 := BX3.cell 2 (.int .i64 (f 2)) rfl
      have m3 := BX3.cell 3 (.int .i64 (f 3)) rfl
      have hb3 := below_on hb hW3
      have hw3 := below_on hw hW3
      have q0 := (BX.lift hb3).cell 0 (.func (.func g) #[] #[]) rfl
      obtain ⟨a, hA⟩ : ∃ a, qf l = a := ⟨_, rfl⟩
      rw [hA] at hQ
      have HQL := Lib.hid (hQ W3 hw3)
      have HA := Lib.hid hA
      clear hA hQ hcc
      by_cases hq0 : q = 0
      · subst hq0
        simp only [Nat.zero_mul, Nat.add_zero] at n0 n1 n2 n3
        go_wp2_with (first | (go_at_call 141; have BR6 := (BR5.set 0 (.int .i64 a)).set 1 (.int .i64 a); refine (widerM_any a a a _).mono ?_; rintro e w6 ⟨rfl, hb6⟩; have r2 := (BR6.lift hb6).cell 0 (.int .i64 a) rfl; have r3 := (BR6.lift hb6).cell 1 (.int .i64 a) rfl; have f2 := (BR6.lift hb6).free 0; have f3 := (BR6.lift hb6).free 1) | (refine HQL.out.mono ?_; rintro e w5 ⟨rfl, hb5⟩; have hbx := below_on hb3 hb5; have BR5 := (BR.lift hW3).lift hb5; have r0 := BR5.cell 0 (.int .i64 lo) rfl; have r1 := BR5.cell 1 (.int .i64 hi) rfl; have f0 := BR5.free 0; have f1 := BR5.free 1))
        go_roundw
        case measure => simp [intOf]; omega
        case rel => exact ⟨1, _, _, by omega, by go_num, ((BR6.lift hb6).set 0 _).set 1 _, by
          show _ = _
          rw [show (1 : Nat) = 0 + 1 from rfl, List.take_add_one, HL.out]
          simp [bndL, HA.out], below_set (below_set (below_on (below_set (below_set hbx (Nat.le_refl _) _) (Nat.le_refl _) _) hb6) (Nat.le_refl _) _) (Nat.le_refl _) _⟩
      · have hqb : ((q : Int) == 0) = false := by simp; omega
        have HQ0 := Lib.hid hq0
        clear hq0
        go_wp2_with (first | (go_at_call 141; refine (widerM_any lo hi a _).mono ?_; rintro e w6 ⟨rfl, hb6⟩; have r2 := (BR5.lift hb6).cell 0 (.int .i64 lo) rfl; have r3 := (BR5.lift hb6).cell 1 (.int .i64 hi) rfl; have f2 := (BR5.lift hb6).free 0; have f3 := (BR5.lift hb6).free 1) | (refine HQL.out.mono ?_; rintro e w5 ⟨rfl, hb5⟩; have hbx := below_on hb3 hb5; have BR5 := (BR.lift hW3).lift hb5; have r0 := BR5.cell 0 (.int .i64 lo) rfl; have r1 := BR5.cell 1 (.int .i64 hi) rfl; have f0 := BR5.free 0; have f1 := BR5.free 1))
        go_roundw
        case measure => simp [intOf]; omega
        case rel => exact ⟨q + 1, _, _, by omega, by go_num, ((BR5.lift hb6).set 0 _).set 1 _, by
          show _ = _
          have hne : ((lexM m).take q).map qf ≠ [] := by
            have := lt_of_at HL.out
            have := HQ0.out
            intro e
            have := congrArg List.length e
            rw [List.length_map, List.length_take, List.length_nil] at this
            omega
          rw [List.take_add_one, HL.out]
          simp only [List.map_append, Option.toList, List.map_cons, List.map_nil, HA.out]
          rw [bndL_snoc hne, ← hbd.out]; rfl, below_set (below_set (below_on hbx hb6) (Nat.le_refl _) _) (Nat.le_refl _) _⟩
    · obtain rfl : q = tn := by omega
      have HB : Hid ((⟨lo, hi⟩ : Rg) = bndL ((lexM m).map qf)) := by
        have h1 := hbd.out
        rwa [take_len HLt.out] at h1
      clear hbd
      have r0 := BR.cell 0 (.int .i64 lo) rfl
      have r1 := BR.cell 1 (.int .i64 hi) rfl
      have f0 := BR.free 0
      have f1 := BR.free 1
      go_wp2
      have B6 := (BR.set 0 (.int .i64 lo)).set 1 (.int .i64 hi)
      have z0 := B6.cell 0 (.int .i64 lo) rfl
      have z1 := B6.cell 1 (.int .i64 hi) rfl
      refine bodyPost_ret (v := .agg #[.int .i64 lo, .int .i64 hi]) (by simp [results, Tryz.results94, go_sem, z0, z1]) rfl ?_
      rw [← HB.out]
      exact ⟨rfl, below_set (below_set hw (by have := hW0.size; omega) _) (by have := hW0.size; omega) _⟩
end Go.Proofs.YtenfnakhijobkaaGreat
namespace Go.Proofs.YtenfnakhijobkaaGreat
open Go.RowKit Go.Proofs.YtenfnakhijobkaaGreatW.PrintLast
def brQ (m : MktD) (plan : List Int) (l : List Int) : Int := sumS m (fun j => l.getD j 0) plan
def bringsS (m : MktD) (plan : List Int) : Rg := bndL ((lexM m).map (brQ m plan))
theorem brings_any (B r : Nat) (v : MktV) (m : MktD) (ss : Sl) (hm : MOk m) (sp : Sl) (plan : List Int) (hpl : plan.length ≤ m.chests.length) (hpb : ∀ x ∈ plan, -1 ≤ x ∧ x < m.sales.length) (w : World) (h : SaleWk w B r v m ss) (hp : RdInts w sp plan) :
    Calls Tryz.prog 96 #[.pointer (some ⟨B, 0, none⟩), .slice sp.a sp.n sp.c] w fun e w' => e = .returned (.agg (bringsS m plan).cs.toArray) ∧ Below w.heap.size w w' := by
  obtain ⟨W0, hNW0, BX, hW0, hzW0⟩ := Box.named w #[.int .i64 0, .int .i64 0] 63
  have HB := Lib.hid (boundsM_any B r v m ss hm 142 (enters_of Tryz.func142 (by kernel_rfl) rfl) 0 sp (brQ m plan) W0 (h.below hW0)
    (fun l hl w' hb => brought_any B r v m ss hm (fun j => l.getD j 0) (lexM_bd hm hl).2 sp plan hpl hpb 0 w' (h.below (below_on hW0 hb)) (hp.below (encR_mono _) (below_on hW0 hb))))
  have HE : Hid (bringsS m plan = bndL ((lexM m).map (brQ m plan))) := rfl
  obtain ⟨⟨lo, hi⟩, hr⟩ : ∃ r, bndL ((lexM m).map (brQ m plan)) = r := ⟨_, rfl⟩
  rw [hr] at HB HE
  clear hr
  go_enter Tryz.func96, Tryz.ntmps96
  go_wp2_with (go_at_call 94; refine HB.out.mono ?_; rintro e w1 ⟨rfl, hb1⟩; have BX1 := BX.lift hb1; have r0 := BX1.cell 0 (.int .i64 0) rfl; have r1 := BX1.cell 1 (.int .i64 0) rfl; have f0 := BX1.free 0; have f1 := BX1.free 1)
  have B2 := (BX1.set 0 (.int .i64 lo)).set 1 (.int .i64 hi)
  have z0 := B2.cell 0 (.int .i64 lo) rfl
  have z1 := B2.cell 1 (.int .i64 hi) rfl
  refine bodyPost_ret (v := .agg #[.int .i64 lo, .int .i64 hi]) (by simp [results, Tryz.results96, go_sem, z0, z1]) rfl ?_
  rw [HE.out]
  exact ⟨rfl, below_set (below_set (below_on hW0 hb1) (Nat.le_refl _) _) (Nat.le_refl _) _⟩
/-- The error of asking a market for a plan. -/
def askM (m : MktD) (plan : List Int) : Int := if mktFault m ≠ 0 then mktFault m else if offS m plan ≠ 0 then offS m plan else if lexM m = [] then 11 else 0
def AskMErr (w : World) (n : Int) (e : Ending) (w' : World) : Prop := (∃ p : Option Addr, e = .returned (.tuple #[.pointer p, .int .i64 n])) ∧ Below w.heap.size w w'
theorem askM_zero {m : MktD} {plan : List Int} (h : askM m plan = 0) : MOk m ∧ mktFault m = 0 ∧ offS m plan = 0 ∧ lexM m ≠ [] := by
  unfold askM at h
  by_cases h0 : mktFault m = 0
  · rw [if_neg (by simp [h0])] at h
    by_cases h1 : offS m plan = 0
    · rw [if_neg (by simp [h1])] at h
      by_cases h2 : lexM m = []
      · rw [if_pos h2] at h; cases h
      · exact ⟨MOk.of h0, h0, h1, h2⟩
    · rw [if_pos h1] at h; exact absurd h h1
  · rw [if_pos h0] at h; exact absurd h h0
theorem offS_zero {m : MktD} {plan : List Int} (h : offS m plan = 0) : isPlanS m plan = true ∧ possS m plan = true := by
  unfold offS at h
  cases h1 : isPlanS m plan
  · rw [h1] at h; simp at h
  · rw [h1] at h
    cases h2 : possS m plan
    · rw [h2] at h; simp at h
    · exact ⟨rfl, rfl⟩
theorem slen_ne {w : World} {B r : Nat} {v : MktV} {m : MktD} {s : Sl} (h : SaleWk w B r v m s) (hne : lexM m ≠ []) : ((s.n : Int) == 0) = false := by
  have h1 := h.ts.len
  have h3 : s.n ≠ 0 := fun e => hne (List.eq_nil_of_length_eq_zero (by omega))
  simp; omega
theorem slen_nil {w : World} {B r : Nat} {v : MktV} {m : MktD} {s : Sl} (h : SaleWk w B r v m s) (he : lexM m = []) : ((s.n : Int) == 0) = true := by
  have h1 := h.ts.len
  rw [he] at h1
  have h3 : s.n = 0 := h1.symm
  simp [h3]
set_option maxHeartbeats 4000000 in
set_option maxRecDepth 100000 in
theorem askedM_ok (v : MktV) (m : MktD) (sp : Sl) (plan : List Int) (w : World) (h : RdMkt w v m) (hp : RdInts w sp plan) (h0 : askM m plan = 0) :
    Calls Tryz.prog 95 #[.agg v.cs, .slice sp.a sp.n sp.c] w (WorkOk w v m) := by
  obtain ⟨hm, hf, ho, hne⟩ := askM_zero h0
  obtain ⟨W0, hNW0, BX, hW0, hzW0⟩ := Box.named w v.cs 49
  have c0 := BX.cell 0 (.int .i64 v.loft.last) rfl
  have c1 := BX.cell 1 (.slice v.loft.air.a v.loft.air.n v.loft.air.c) rfl
  have c2 := BX.cell 2 (.slice v.loft.shelves.a v.loft.shelves.n v.loft.shelves.c) rfl
  have c3 := BX.cell 3 (.slice v.loft.cakes.a v.loft.cakes.n v.loft.cakes.c) rfl
  have c4 := BX.cell 4 (.slice v.loft.put.a v.loft.put.n v.loft.put.c) rfl
  have c5 := BX.cell 5 (.slice v.loft.weights.a v.loft.weights.n v.loft.weights.c) rfl
  have c6 := BX.cell 6 (.slice v.sales.a v.sales.n v.sales.c) rfl
  have c7 := BX.cell 7 (.slice v.chests.a v.chests.n v.chests.c) rfl
  have c8 := BX.cell 8 (.int .i64 v.step) rfl
  have c9 := BX.cell 9 (.int .i64 v.lots) rfl
  have c10 := BX.cell 10 (.slice v.notes.a v.notes.n v.notes.c) rfl
  have HA := Lib.hid (work_ok v m W0 (h.below hW0) hf)
  have HO := Lib.hid fun w' B r s (hb : Below w.heap.size w w') (h' : SaleWk w' B r v m s) => offered_any B r v m s hm sp plan w' h' (hp.below (encR_mono _) hb)
  rw [ho] at HO
  have HNE := Lib.hid hne
  clear hf ho h0 hne
  go_enter Tryz.func95, Tryz.ntmps95
  go_wp2_with (first
    | (go_at_call 86; refine HA.out.mono ?_; rintro e w1 ⟨B, r, s, rfl, hwk, hr, hb1⟩; have HWK := Lib.hid hwk; clear hwk)
    | (go_at_call 124; refine (HO.out _ _ _ _ (below_on hW0 hb1) HWK.out).mono ?_; rintro e w2 ⟨rfl, hb2⟩; have HWK2 := Lib.hid (HWK.out.below hb2); have c12 := HWK2.out.c12; have hsn := slen_ne HWK2.out HNE.out))
  go_ret2
  exact ⟨B, r, s, rfl, HWK2.out, by have := hW0.size; omega, below_on (below_on hW0 hb1) hb2⟩
set_option maxHeartbeats 4000000 in
set_option maxRecDepth 100000 in
theorem askedM_err (v : MktV) (m : MktD) (sp : Sl) (plan : List Int) (w : World) (h : RdMkt w v m) (hp : RdInts w sp plan) (hne : askM m plan ≠ 0) :
    Calls Tryz.prog 95 #[.agg v.cs, .slice sp.a sp.n sp.c] w (AskMErr w (askM m plan)) := by
  obtain ⟨W0, hNW0, BX, hW0, hzW0⟩ := Box.named w v.cs 49
  have c0 := BX.cell 0 (.int .i64 v.loft.last) rfl
  have c1 := BX.cell 1 (.slice v.loft.air.a v.loft.air.n v.loft.air.c) rfl
  have c2 := BX.cell 2 (.slice v.loft.shelves.a v.loft.shelves.n v.loft.shelves.c) rfl
  have c3 := BX.cell 3 (.slice v.loft.cakes.a v.loft.cakes.n v.loft.cakes.c) rfl
  have c4 := BX.cell 4 (.slice v.loft.put.a v.loft.put.n v.loft.put.c) rfl
  have c5 := BX.cell 5 (.slice v.loft.weights.a v.loft.weights.n v.loft.weights.c) rfl
  have c6 := BX.cell 6 (.slice v.sales.a v.sales.n v.sales.c) rfl
  have c7 := BX.cell 7 (.slice v.chests.a v.chests.n v.chests.c) rfl
  have c8 := BX.cell 8 (.int .i64 v.step) rfl
  have c9 := BX.cell 9 (.int .i64 v.lots) rfl
  have c10 := BX.cell 10 (.slice v.notes.a v.notes.n v.notes.c) rfl
  by_cases hf : mktFault m = 0
  · have hm := MOk.of hf
    have HA := Lib.hid (work_ok v m W0 (h.below hW0) hf)
    have hO := fun w' B r s (hb : Below w.heap.size w w') (h' : SaleWk w' B r v m s) => offered_any B r v m s hm sp plan w' h' (hp.below (encR_mono _) hb)
    by_cases ho : offS m plan = 0
    · have hnil : lexM m = [] := by
        by_cases h2 : lexM m = []
        · exact h2
        · exact absurd (by rw [askM, if_neg (by simp [hf]), if_neg (by simp [ho]), if_neg h2]) hne
      have HE : Hid (askM m plan = 11) := by show _ = _; rw [askM, if_neg (by simp [hf]), if_neg (by simp [ho]), if_pos hnil]
      rw [ho] at hO
      have HO := Lib.hid hO
      have HNE := Lib.hid hnil
      clear hf ho hnil hne hO
      go_enter Tryz.func95, Tryz.ntmps95
      go_wp2_with (first
        | (go_at_call 86; refine HA.out.mono ?_; rintro e w1 ⟨B, r, s, rfl, hwk, hr, hb1⟩; have HWK := Lib.hid hwk; clear hwk)
        | (go_at_call 124; refine (HO.out _ _ _ _ (below_on hW0 hb1) HWK.out).mono ?_; rintro e w2 ⟨rfl, hb2⟩; have HWK2 := Lib.hid (HWK.out.below hb2); have c12 := HWK2.out.c12; have hsn := slen_nil HWK2.out HNE.out))
      go_ret2
      rw [HE.out]
      exact ⟨⟨_, rfl⟩, below_on (below_on hW0 hb1) hb2⟩
    · have HE : Hid (askM m plan = offS m plan) := by show _ = _; rw [askM, if_neg (by simp [hf]), if_pos ho]
      obtain ⟨ev, hev⟩ : ∃ ev, offS m plan = ev := ⟨_, rfl⟩
      rw [hev] at ho hO HE
      have hnb : (ev == 0) = false := by simp [ho]
      have HO := Lib.hid hO
      clear hf ho hne hO hev
      go_enter Tryz.func95, Tryz.ntmps95
      go_wp2_with (first
        | (go_at_call 86; refine HA.out.mono ?_; rintro e w1 ⟨B, r, s, rfl, hwk, hr, hb1⟩; have HWK := Lib.hid hwk; clear hwk)
        | (go_at_call 124; refine (HO.out _ _ _ _ (below_on hW0 hb1) HWK.out).mono ?_; rintro e w2 ⟨rfl, hb2⟩))
      go_ret2
      rw [HE.out]
      exact ⟨⟨_, rfl⟩, below_on (below_on hW0 hb1) hb2⟩
  · have HE : Hid (askM m plan = mktFault m) := by show _ = _; rw [askM, if_pos hf]
    have hA := work_err v m W0 (h.below hW0) hf
    obtain ⟨ev, hev⟩ : ∃ ev, mktFault m = ev := ⟨_, rfl⟩
    rw [hev] at hf hA HE
    have hnb : (ev == 0) = false := by simp [hf]
    have HA := Lib.hid hA
    clear hf hne hA hev
    go_enter Tryz.func95, Tryz.ntmps95
    go_wp2_with (go_at_call 86; refine HA.out.mono ?_; rintro e w1 ⟨rfl, hb1⟩)
    go_ret2
    rw [HE.out]
    exact ⟨⟨_, rfl⟩, below_on hW0 hb1⟩
def brS (m : MktD) (plan : List Int) : Rg × Int := if askM m plan ≠ 0 then (⟨0, 0⟩, askM m plan) else (bringsS m plan, 0)
set_option maxHeartbeats 4000000 in
set_option maxRecDepth 100000 in
theorem BringsP_any (v : MktV) (m : MktD) (sp : Sl) (plan : List Int) (w : World) (h : RdMkt w v m) (hp : RdInts w sp plan) :
    Calls Tryz.prog 35 #[.agg v.cs, .slice sp.a sp.n sp.c] w fun e w' => e = .returned (.tuple #[.agg (brS m plan).1.cs.toArray, .int .i64 (brS m plan).2]) ∧ Below w.heap.size w w' := by
  obtain ⟨W0, hNW0, BX, hW0, hzW0⟩ := Box.named w v.cs 49
  obtain ⟨W1, hNW1, BX1, hW1, hzW1⟩ := Box.named W0 #[.int .i64 0, .int .i64 0] 63
  have hw1 := below_on hW0 hW1
  have c0 := (BX.lift hW1).cell 0 (.int .i64 v.loft.last) rfl
  have c1 := (BX.lift hW1).cell 1 (.slice v.loft.air.a v.loft.air.n v.loft.air.c) rfl
  have c2 := (BX.lift hW1).cell 2 (.slice v.loft.shelves.a v.loft.shelves.n v.loft.shelves.c) rfl
  have c3 := (BX.lift hW1).cell 3 (.slice v.loft.cakes.a v.loft.cakes.n v.loft.cakes.c) rfl
  have c4 := (BX.lift hW1).cell 4 (.slice v.loft.put.a v.loft.put.n v.loft.put.c) rfl
  have c5 := (BX.lift hW1).cell 5 (.slice v.loft.weights.a v.loft.weights.n v.loft.weights.c) rfl
  have c6 := (BX.lift hW1).cell 6 (.slice v.sales.a v.sales.n v.sales.c) rfl
  have c7 := (BX.lift hW1).cell 7 (.slice v.chests.a v.chests.n v.chests.c) rfl
  have c8 := (BX.lift hW1).cell 8 (.int .i64 v.step) rfl
  have c9 := (BX.lift hW1).cell 9 (.int .i64 v.lots) rfl
  have c10 := (BX.lift hW1).cell 10 (.slice v.notes.a v.notes.n v.notes.c) rfl
  by_cases h0 : askM m plan = 0
  · obtain ⟨hm, hf, ho, hne⟩ := askM_zero h0
    obtain ⟨hpl, hps⟩ := offS_zero ho
    obtain ⟨hp1, hp2⟩ := isPlanS_bd hpl
    have HA := Lib.hid (askedM_ok v m sp plan W1 (h.below hw1) (hp.below (encR_mono _) hw1) h0)
    have HB := Lib.hid fun w' B r s (hb : Below w.heap.size w w') (h' : SaleWk w' B r v m s) => brings_any B r v m s hm sp plan (by omega) hp2 w' h' (hp.below (encR_mono _) hb)
    have HE : Hid (brS m plan = (bringsS m plan, 0)) := by show _ = _; rw [brS, if_neg (by simp [h0])]
    obtain ⟨⟨lo, hi⟩, hr⟩ : ∃ r, bringsS m plan = r := ⟨_, rfl⟩
    rw [hr] at HB HE
    clear hr h0 hf ho hne hpl hps hp1 hp2
    go_enter Tryz.func35, Tryz.ntmps35
    go_wp2_with (first
      | (go_at_call 95; refine HA.out.mono ?_; rintro e w1 ⟨B, r, s, rfl, hwk, hr, hb1⟩; have HWK := Lib.hid hwk; clear hwk)
      | (go_at_call 96; refine (HB.out _ _ _ _ (below_on hw1 hb1) HWK.out).mono ?_; rintro e w2 ⟨rfl, hb2⟩; have BX2 := (BX1.lift hb1).lift hb2; have r0 := BX2.cell 0 (.int .i64 0) rfl; have r1 := BX2.cell 1 (.int .i64 0) rfl; have f0 := BX2.free 0; have f1 := BX2.free 1))
    have B2 := (BX2.set 0 (.int .i64 lo)).set 1 (.int .i64 hi)
    have z0 := B2.cell 0 (.int .i64 lo) rfl
    have z1 := B2.cell 1 (.int .i64 hi) rfl
    refine bodyPost_ret (v := .tuple #[.agg #[.int .i64 lo, .int .i64 hi], .int .i64 0]) (by simp [results, Tryz.results35, go_sem, z0, z1]) rfl ?_
    rw [HE.out]
    exact ⟨rfl, below_set (below_set (below_on (below_on hw1 hb1) hb2) (by have := hW0.size; omega) _) (by have := hW0.size; omega) _⟩
  · have HE : Hid (brS m plan = (⟨0, 0⟩, askM m plan)) := by show _ = _; rw [brS, if_pos h0]
    have hA := askedM_err v m sp plan W1 (h.below hw1) (hp.below (encR_mono _) hw1) h0
    obtain ⟨ev, hev⟩ : ∃ ev, askM m plan = ev := ⟨_, rfl⟩
    rw [hev] at h0 hA HE
    have hnb : (ev != 0) = true := by simp [h0]
    have HA := Lib.hid hA
    clear h0 hA hev
    go_enter Tryz.func35, Tryz.ntmps35
    go_wp2_with (go_at_call 95; refine HA.out.mono ?_; rintro e w1 ⟨⟨p, rfl⟩, hb1⟩; have BX2 := BX1.lift hb1; have r0 := BX2.cell 0 (.int .i64 0) rfl; have r1 := BX2.cell 1 (.int .i64 0) rfl; have f0 := BX2.free 0; have f1 := BX2.free 1)
    have B2 := (BX2.set 0 (.int .i64 0)).set 1 (.int .i64 0)
    have z0 := B2.cell 0 (.int .i64 0) rfl
    have z1 := B2.cell 1 (.int .i64 0) rfl
    refine bodyPost_ret (v := .tuple #[.agg #[.int .i64 0, .int .i64 0], .int .i64 ev]) (by simp [results, Tryz.results35, go_sem, z0, z1]) rfl ?_
    rw [HE.out]
    exact ⟨rfl, below_set (below_set (below_on hw1 hb1) (by have := hW0.size; omega) _) (by have := hW0.size; omega) _⟩
end Go.Proofs.YtenfnakhijobkaaGreat
namespace Go.Proofs.YtenfnakhijobkaaGreat
open Go.RowKit Go.Proofs.YtenfnakhijobkaaGreatW.PrintLast
theorem info156 : (Tryz.prog.info? 156).map (fun i => (i.zero, i.size, i.bytes)) = some (some (.agg #[.slice none 0 0, .slice none 0 0]), 2, 48) := by kernel_rfl
/-- A list of truths is returned, in memory of its own. -/
def RetTruths (w : World) (ts : List TruthD) (e : Ending) (w' : World) : Prop := ∃ s : Sl, e = .returned (.slice s.a s.n s.c) ∧ Fr (fun W => Rd truthR 2 W s ts) w.heap.size w' ∧ Below w.heap.size w w'
set_option maxHeartbeats 4000000 in
set_option maxRecDepth 100000 in
theorem Truths06_any (v : LoftV) (l : LoftD) (hl : LOk l) (w : World) (h : RdLoft w v l) :
    Calls Tryz.prog 30 #[.agg v.cs] w (RetTruths w (truthsR l)) := by
  obtain ⟨vl, ⟨aa, an, ac⟩, ⟨ba, bn, bc⟩, ⟨ca, cn, cc⟩, ⟨pa, pn, pc⟩, ⟨wa, wn, wc⟩⟩ := v
  obtain ⟨i0, hi0, hz0, hz1, hz2⟩ := info_parts info156
  have HI := Lib.hid hi0
  have HZ0 := Lib.hid hz0
  have HZ1 := Lib.hid hz1
  have HZ2 := Lib.hid hz2
  clear hi0 hz0 hz1 hz2
  have hm := capMul_pos hl
  obtain ⟨M, hM⟩ : ∃ M : Nat, capMul 3000 l.sizes = M := ⟨(capMul 3000 l.sizes).toNat, by omega⟩
  have HM := Lib.hid hM
  have hM1 : M ≤ 3000 := by omega
  have hva : ∀ r ∈ l.air, RgOk r := fun r hr => by have := hl.airs r hr; unfold RgOk; omega
  have hvc : ∀ c ∈ l.cakes, RgOk c.water := fun c hc => by have := hl.cakes c hc; unfold RgOk; omega
  have HVA := Lib.hid hva
  have HVC := Lib.hid hvc
  clear hM hm hva hvc
  go_enter Tryz.func30, Tryz.ntmps30
  go_wp2
  obtain ⟨W0, hNW0, BX, hW0, hzW0⟩ := Box.named w (LoftV.cs ⟨vl, ⟨aa, an, ac⟩, ⟨ba, bn, bc⟩, ⟨ca, cn, cc⟩, ⟨pa, pn, pc⟩, ⟨wa, wn, wc⟩⟩) 28
  rw [hNW0]
  clear hNW0
  go_loopw [3, 4] (fun r i wr => ∃ k : Nat, ∃ vv : Value, k ≤ M ∧ i = .int .i64 k ∧ vv = r ∧ Acc truthR (fun i => i < W0.heap.size) 156 2 W0.heap.size wr vv (tsR l k) ∧ Below W0.heap.size W0 wr) (fun _ i _ => M - (intOf i).toNat)
  case atStart => exact ⟨0, _, Nat.zero_le _, rfl, rfl, Acc.nil _, Below.refl _ _⟩
  case round =>
    obtain ⟨k, vv, hk, rfl, rfl, hacc, hb⟩ := hrel
    have hw := below_on hW0 hb
    have c0 := (BX.lift hb).cell 0 (.int .i64 vl) rfl
    have c1 := (BX.lift hb).cell 1 (.slice aa an ac) rfl
    have c2 := (BX.lift hb).cell 2 (.slice ba bn bc) rfl
    have c3 := (BX.lift hb).cell 3 (.slice ca cn cc) rfl
    have c4 := (BX.lift hb).cell 4 (.slice pa pn pc) rfl
    have c5 := (BX.lift hb).cell 5 (.slice wa wn wc) rfl
    have hlt0 := (BX.lift hb).lt
    by_cases hlt : k < M
    · have hk3 : k ≤ 3000 := by omega
      go_wp2_with (first | (go_at_call 89; refine (call_val (Many06_any ⟨vl, ⟨aa, an, ac⟩, ⟨ba, bn, bc⟩, ⟨ca, cn, cc⟩, ⟨pa, pn, pc⟩, ⟨wa, wn, wc⟩⟩ l _ (h.below hw) HVA.out HVC.out) (u := .int .i64 M) (by rw [HM.out])).mono ?_; rintro e w1 ⟨rfl, hb1⟩; obtain ⟨hbc1, hbf1⟩ := bcell hb1; have hlt1 := ((BX.lift hb).lift hb1).lt) | (go_at_call 90; refine (Nth06_any ⟨vl, ⟨aa, an, ac⟩, ⟨ba, bn, bc⟩, ⟨ca, cn, cc⟩, ⟨pa, pn, pc⟩, ⟨wa, wn, wc⟩⟩ l hl _ (h.below (hw.trans (hb1.mono hw.size))) k hk3).mono ?_; rintro e w2 ⟨⟨⟨ta, tn, tc⟩, ⟨ua, un, uc⟩⟩, rfl, hfr, hb2⟩))
      obtain ⟨W3, hNW3, BX3, hW3, hzW3⟩ := Box.named w2 (TruthV.cs ⟨⟨ta, tn, tc⟩, ⟨ua, un, uc⟩⟩) 156
      rw [hNW3]
      clear hNW3
      have hb3 := below_on (below_on (below_on hb hb1) hb2) hW3
      have f0 := (BX.lift hb3).cell 0 (.int .i64 vl) rfl
      have f1 := (BX.lift hb3).cell 1 (.slice aa an ac) rfl
      have f2 := (BX.lift hb3).cell 2 (.slice ba bn bc) rfl
      have f3 := (BX.lift hb3).cell 3 (.slice ca cn cc) rfl
      have f4 := (BX.lift hb3).cell 4 (.slice pa pn pc) rfl
      have f5 := (BX.lift hb3).cell 5 (.slice wa wn wc) rfl
      have g0 := BX3.cell 0 (.slice ta tn tc) rfl
      have g1 := BX3.cell 1 (.slice ua un uc) rfl
      have hw3 := below_on hW0 hb3
      have hft := hfr.below hW3
      have hT := nthT_ok hl k
      by_cases hok : tOk l (nthT l k) = true
      · have hbit : ((bitsN (l.weights.map (wRight l (nthT l k))) : Nat) : Int) = ((2 ^ l.weights.length - 1 : Nat) : Int) := by rw [(full_iff l (nthT l k)).2 hok]
        obtain ⟨F, hF⟩ : ∃ F : Int, ((2 ^ l.weights.length - 1 : Nat) : Int) = F := ⟨_, rfl⟩
        have HF := Lib.hid hF
        have HB := Lib.hid (hbit.trans hF)
        clear hbit hF
        have zz0 := fun x : After W3 => At.cell f0 x
        have zz1 := fun x : After W3 => At.cell f1 x
        have zz2 := fun x : After W3 => At.cell f2 x
        have zz3 := fun x : After W3 => At.cell f3 x
        have zz4 := fun x : After W3 => At.cell f4 x
        have zz5 := fun x : After W3 => At.cell f5 x
        have zz6 := fun x : After W3 => At.cell g0 x
        have zz7 := fun x : After W3 => At.cell g1 x
        refine wp_region_after (by kernel_rfl) (by kernel_rfl) ?_
        repeat (go_big_quiet_step ((first | (go_at_call 91; exact after_call (call_val (Right06_any ⟨vl, ⟨aa, an, ac⟩, ⟨ba, bn, bc⟩, ⟨ca, cn, cc⟩, ⟨pa, pn, pc⟩, ⟨wa, wn, wc⟩⟩ l ⟨⟨ta, tn, tc⟩, ⟨ua, un, uc⟩⟩ (nthT l k) hl hT _ (h.below (hw3.trans ((At.below _).mono hw3.size))) ((hft.below (At.below _)).now)) (u := .int .i64 F) (by rw [HB.out]))) | (go_at_call 92; exact after_call (call_val (Full06_any ⟨vl, ⟨aa, an, ac⟩, ⟨ba, bn, bc⟩, ⟨ca, cn, cc⟩, ⟨pa, pn, pc⟩, ⟨wa, wn, wc⟩⟩ l hl _ (h.below (hw3.trans ((At.below _).mono hw3.size)))) (u := .int .i64 F) (by rw [HF.out]))))))
        refine wpQuiet_nil ?_
        intro W4 hbW4
        clear zz0 zz1 zz2 zz3 zz4 zz5 zz6 zz7
        have hacc4 := (hacc.below (below_on (below_on (below_on hb1 hb2) hW3) hbW4))
        obtain ⟨rows, r1, r2, r3, r4⟩ := hacc4.ex
        have g0 := (BX3.lift hbW4).cell 0 (.slice ta tn tc) rfl
        have g1 := (BX3.lift hbW4).cell 1 (.slice ua un uc) rfl
        have hft4 := hft.below hbW4
        have hlen := tsR_len l k
        have hml : (tsR l k).length + 1 ≤ maxLen := by unfold maxLen; omega
        have hsz4 : W0.heap.size ≤ W4.heap.size := (below_on hb3 hbW4).size
        go_wp2_with (at_builtin; go_must (refine wpList_append_lies _ rfl _ _ _ rfl W0.heap.size 156 i0 _ 2 48 Tryz.underlying54 HI.out HZ0.out HZ1.out HZ2.out rfl (by omega) vv (tsR l k).length rows.flatten rfl (r3.alloc _) ⟨W4.heap.size, 0, none⟩ 1 1 [.slice ta tn tc, .slice ua un uc] rfl rfl (World.news_of_block (cs := #[.slice ta tn tc, .slice ua un uc]) (t := 156) (fr := (0, 0)) (heap_alloc_new W4 _)) (by simp [Value.oneCell']) (by omega) hml (by omega) (by simp; omega) _ rfl ?_); intro g cap w5 hown5 hgrow hat hlt5)
        go_roundw
        case measure => simp [intOf]; omega
        case rel =>
          have hgr : W4.grownBy w5 vv.ownBlock := World.grownBy.trans (World.grownBy_alloc W4 _ _) hgrow
          have hTf : Fr (fun W => truthR W (nthT l k) [.slice ta tn tc, .slice ua un uc]) w1.heap.size W4 := hft4.mono (Nat.le_refl _) (fun W hW => ⟨⟨⟨ta, tn, tc⟩, ⟨ua, un, uc⟩⟩, rfl, hW⟩)
          have hoff := hTf.off (S := fun i => i < W0.heap.size ∨ some i = vv.ownBlock) (fun i hi => Or.inl (by
            rcases hi with hi | hi
            · have := hb.size
              have := hb1.size
              omega
            · have := (hacc.lt i hi.symm).2
              have := hb1.size
              omega))
          have hsn := Acc.snoc (S0 := fun i => i < W0.heap.size) r1 r2 r4 (x := nthT l k) (cs := [.slice ta tn tc, .slice ua un uc]) rfl hown5 hgr (hat.imp id (fun e => by rw [e]; simp)) hoff
          have e : tsR l (k + 1) = tsR l k ++ [nthT l k] := by rw [tsR_succ, if_pos hok]
          refine ⟨k + 1, _, by omega, by go_num, rfl, ?_, (below_on (below_on hb3 hbW4) (below_box _ _)).grown hgrow (by simp; omega) (fun b hbb => (hacc.lt b hbb).1)⟩
          rw [e]
          exact hsn
      · have hbit : ¬ ((bitsN (l.weights.map (wRight l (nthT l k))) : Nat) : Int) = ((2 ^ l.weights.length - 1 : Nat) : Int) := fun e => hok ((full_iff l (nthT l k)).1 (by omega))
        obtain ⟨F, hF⟩ : ∃ F : Int, ((2 ^ l.weights.length - 1 : Nat) : Int) = F := ⟨_, rfl⟩
        obtain ⟨G, hG⟩ : ∃ G : Int, ((bitsN (l.weights.map (wRight l (nthT l k))) : Nat) : Int) = G := ⟨_, rfl⟩
        have HF := Lib.hid hF
        have HG := Lib.hid hG
        rw [hF, hG] at hbit
        have hfg : (G == F) = false := by simpa using hbit
        clear hbit hF hG
        have zz0 := fun x : After W3 => At.cell f0 x
        have zz1 := fun x : After W3 => At.cell f1 x
        have zz2 := fun x : After W3 => At.cell f2 x
        have zz3 := fun x : After W3 => At.cell f3 x
        have zz4 := fun x : After W3 => At.cell f4 x
        have zz5 := fun x : After W3 => At.cell f5 x
        have zz6 := fun x : After W3 => At.cell g0 x
        have zz7 := fun x : After W3 => At.cell g1 x
        refine wp_region_after (by kernel_rfl) (by kernel_rfl) ?_
        repeat (go_big_quiet_step ((first | (go_at_call 91; exact after_call (call_val (Right06_any ⟨vl, ⟨aa, an, ac⟩, ⟨ba, bn, bc⟩, ⟨ca, cn, cc⟩, ⟨pa, pn, pc⟩, ⟨wa, wn, wc⟩⟩ l ⟨⟨ta, tn, tc⟩, ⟨ua, un, uc⟩⟩ (nthT l k) hl hT _ (h.below (hw3.trans ((At.below _).mono hw3.size))) ((hft.below (At.below _)).now)) (u := .int .i64 G) (by rw [HG.out]))) | (go_at_call 92; exact after_call (call_val (Full06_any ⟨vl, ⟨aa, an, ac⟩, ⟨ba, bn, bc⟩, ⟨ca, cn, cc⟩, ⟨pa, pn, pc⟩, ⟨wa, wn, wc⟩⟩ l hl _ (h.below (hw3.trans ((At.below _).mono hw3.size)))) (u := .int .i64 F) (by rw [HF.out]))))))
        refine wpQuiet_nil ?_
        intro W4 hbW4
        clear zz0 zz1 zz2 zz3 zz4 zz5 zz6 zz7
        have hacc4 := (hacc.below (below_on (below_on (below_on hb1 hb2) hW3) hbW4))
        go_wp2
        go_roundw
        case measure => simp [intOf]; omega
        case rel =>
          have e : tsR l (k + 1) = tsR l k := by rw [tsR_succ, if_neg hok]; simp
          refine ⟨k + 1, _, by omega, by go_num, rfl, ?_, below_on hb3 hbW4⟩
          rw [e]
          exact hacc4
    · obtain rfl : M = k := by omega
      have hlen := tsR_len l M
      obtain ⟨⟨sa, sn, sc⟩, hvv, hsn, hfr⟩ := hacc.fr (Nat.le_refl _) (by omega)
      simp only at hvv
      have HSN := Lib.hid hsn
      clear hsn
      subst hvv
      have HT : Hid (truthsR l = tsR l M) := by
        show _ = _
        unfold truthsR
        rw [HM.out]; rfl
      go_wp2_with (go_at_call 89; refine (call_val (Many06_any ⟨vl, ⟨aa, an, ac⟩, ⟨ba, bn, bc⟩, ⟨ca, cn, cc⟩, ⟨pa, pn, pc⟩, ⟨wa, wn, wc⟩⟩ l _ (h.below hw) HVA.out HVC.out) (u := .int .i64 M) (by rw [HM.out])).mono ?_; rintro e w1 ⟨rfl, hb1⟩)
      go_ret
      rw [HT.out]
      exact ⟨⟨sa, sn, sc⟩, rfl, (hfr.below hb1).mono hW0.size (fun _ h => h), hw.trans (hb1.mono hw.size)⟩
end Go.Proofs.YtenfnakhijobkaaGreat
namespace Go.Proofs.YtenfnakhijobkaaGreat
open Go.RowKit

theorem mf_a {m : MktD} (h : loftFault m.loft ≠ 0) : mktFault m = loftFault m.loft := by unfold mktFault; rw [if_pos h]
theorem mf_b {m : MktD} (h1 : loftFault m.loft = 0) (h : (truthsR m.loft).isEmpty = true) : mktFault m = 11 := by unfold mktFault; rw [if_neg (by simp [h1]), if_pos h]
theorem mf_c {m : MktD} (h1 : loftFault m.loft = 0) (h2 : (truthsR m.loft).isEmpty = false) (h : m.sales.length > 4 ∨ m.chests.length > 4 ∨ m.notes.length > 5) : mktFault m = 3 := by
  unfold mktFault; rw [if_neg (by simp [h1]), if_neg (by simp [h2]), if_pos h]
def MfC (m : MktD) : Prop := loftFault m.loft = 0 ∧ (truthsR m.loft).isEmpty = false ∧ ¬ (m.sales.length > 4 ∨ m.chests.length > 4 ∨ m.notes.length > 5)
theorem mf_d {m : MktD} (hc : MfC m) (h : mktArgs m = false) : mktFault m = 1 := by
  unfold mktFault; rw [if_neg (by simp [hc.1]), if_neg (by simp [hc.2.1]), if_neg hc.2.2, if_pos h]
theorem mf_e {m : MktD} (hc : MfC m) (h : mktArgs m = true) : mktFault m = if capMul 3000 m.sizes > 2000 then 3 else 0 := by
  unfold mktFault; rw [if_neg (by simp [hc.1]), if_neg (by simp [hc.2.1]), if_neg hc.2.2, if_neg (by simp [h])]
theorem ma_step {m : MktD} (h : (inB m.step 0 20 && inB m.lots 0 4) = false) : mktArgs m = false := by simp only [mktArgs, h, Bool.false_and]
theorem ma_sales {m : MktD} (h : salesOk m.sales = false) : mktArgs m = false := by simp only [mktArgs, h, Bool.false_and, Bool.and_false]
theorem ma_chests {m : MktD} (h : m.chests.all (chestOk m.loft.cakes.length) = false) : mktArgs m = false := by simp only [mktArgs, h, Bool.false_and, Bool.and_false]
theorem ma_apart {m : MktD} (h : decide (apart m.chests) = false) : mktArgs m = false := by simp only [mktArgs, h, Bool.false_and, Bool.and_false]
theorem ma_notes {m : MktD} (h : m.notes.all (noteOk m.sales.length) = false) : mktArgs m = false := by simp only [mktArgs, h, Bool.and_false]
theorem ma_all {m : MktD} (h1 : inB m.step 0 20 = true) (h2 : inB m.lots 0 4 = true) (h3 : salesOk m.sales = true) (h4 : m.chests.all (chestOk m.loft.cakes.length) = true) (h5 : decide (apart m.chests) = true) (h6 : m.notes.all (noteOk m.sales.length) = true) : mktArgs m = true := by
  simp only [mktArgs, h1, h2, h3, h4, h5, h6, Bool.and_true]
set_option maxHeartbeats 4000000 in
set_option maxRecDepth 100000 in
theorem Fault10_any (v : MktV) (m : MktD) (w : World) (h : RdMkt w v m) :
    Calls Tryz.prog 49 #[.agg v.cs] w fun e w' => e = .returned (.int .i64 (mktFault m)) ∧ Below w.heap.size w w' := by
  have hn1 : v.sales.n ≤ 281474976710656 := by have := h.sales.small; omega
  have hn2 : v.chests.n ≤ 281474976710656 := by have := h.chests.small; omega
  have hn3 : v.notes.n ≤ 281474976710656 := by have := h.notes.small; omega
  have HLs : Hid (m.sales.length = v.sales.n) := h.sales.len
  have HLc : Hid (m.chests.length = v.chests.n) := h.chests.len
  have HLn : Hid (m.notes.length = v.notes.n) := h.notes.len
  have HLk : Hid (m.loft.cakes.length = v.loft.cakes.n) := h.loft.cakes.len
  have hst0 : Hid (v.step = m.step) := h.step
  have hlo0 : Hid (v.lots = m.lots) := h.lots
  have hF := Fault06_any v.loft m.loft
  by_cases h1 : loftFault m.loft = 0
  case neg =>
    have hne : (loftFault m.loft != 0) = true := by simp [h1]
    have H1 := Lib.hid h1
    clear h1
    go_enter Tryz.func49, Tryz.ntmps49
    go_wp2_with (go_at_call 106; obtain ⟨W0, hNW0, BX, hW0, hzW0⟩ := Box.named w (MktV.cs v) 33; rw [hNW0]; clear hNW0; refine (hF _ (h.loft.below hW0)).mono ?_; rintro e w1 ⟨rfl, hb1⟩)
    go_ret
    exact ⟨ret_int (mf_a H1.out).symm, below_on hW0 hb1⟩
  have H1 := Lib.hid h1
  have hl := LOk.of h1
  rw [h1] at hF
  clear h1
  cases h2 : (truthsR m.loft).isEmpty
  case true =>
    have hTN : ∀ tn : Nat, (truthsR m.loft).length = tn → ((tn : Int) == 0) = true := fun tn htn => by
      rw [List.isEmpty_iff.1 h2] at htn; simp at htn; subst htn; rfl
    have H2 := Lib.hid h2
    clear h2
    go_enter Tryz.func49, Tryz.ntmps49
    go_wp2_with (first | (go_at_call 106; obtain ⟨W0, hNW0, BX, hW0, hzW0⟩ := Box.named w (MktV.cs v) 33; rw [hNW0]; clear hNW0; refine (hF _ (h.loft.below hW0)).mono ?_; rintro e w1 ⟨rfl, hb1⟩; have c0 := (BX.lift hb1).cell 0 (.int .i64 v.loft.last) rfl; have c1 := (BX.lift hb1).cell 1 (.slice v.loft.air.a v.loft.air.n v.loft.air.c) rfl; have c2 := (BX.lift hb1).cell 2 (.slice v.loft.shelves.a v.loft.shelves.n v.loft.shelves.c) rfl; have c3 := (BX.lift hb1).cell 3 (.slice v.loft.cakes.a v.loft.cakes.n v.loft.cakes.c) rfl; have c4 := (BX.lift hb1).cell 4 (.slice v.loft.put.a v.loft.put.n v.loft.put.c) rfl; have c5 := (BX.lift hb1).cell 5 (.slice v.loft.weights.a v.loft.weights.n v.loft.weights.c) rfl) | (go_at_call 64; refine (call_b (In_any _ _ _ _) (by assumption)).mono ?_; rintro e w3 ⟨rfl, rfl⟩) | (go_at_call 30; refine (Truths06_any v.loft m.loft hl _ (h.loft.below (below_on hW0 hb1))).mono ?_; rintro e w2 ⟨⟨ta, tn, tc⟩, rfl, hfr, hb2⟩; have htn := hfr.now.len; simp only at htn; have hz := hTN _ htn; clear htn; have hb := hb1.trans (hb2.mono hb1.size); have hw := below_on hW0 hb; have c0 := (BX.lift hb).cell 0 (.int .i64 v.loft.last) rfl; have c1 := (BX.lift hb).cell 1 (.slice v.loft.air.a v.loft.air.n v.loft.air.c) rfl; have c2 := (BX.lift hb).cell 2 (.slice v.loft.shelves.a v.loft.shelves.n v.loft.shelves.c) rfl; have c3 := (BX.lift hb).cell 3 (.slice v.loft.cakes.a v.loft.cakes.n v.loft.cakes.c) rfl; have c4 := (BX.lift hb).cell 4 (.slice v.loft.put.a v.loft.put.n v.loft.put.c) rfl; have c5 := (BX.lift hb).cell 5 (.slice v.loft.weights.a v.loft.weights.n v.loft.weights.c) rfl; have c6 := (BX.lift hb).cell 6 (.slice v.sales.a v.sales.n v.sales.c) rfl; have c7 := (BX.lift hb).cell 7 (.slice v.chests.a v.chests.n v.chests.c) rfl; have c8 := (BX.lift hb).cell 8 (.int .i64 v.step) rfl; have c9 := (BX.lift hb).cell 9 (.int .i64 v.lots) rfl; have c10 := (BX.lift hb).cell 10 (.slice v.notes.a v.notes.n v.notes.c) rfl))
    go_ret
    exact ⟨ret_int (mf_b H1.out H2.out).symm, below_on (below_on hW0 hb1) hb2⟩
  have hTN : ∀ tn : Nat, (truthsR m.loft).length = tn → ((tn : Int) == 0) = false := fun tn htn => by
    cases hq : truthsR m.loft with
    | nil => rw [hq] at h2; cases h2
    | cons a b => rw [hq] at htn; simp at htn; simp; omega
  have H2 := Lib.hid h2
  clear h2
  by_cases h3 : v.sales.n > 4 ∨ v.chests.n > 4 ∨ v.notes.n > 5
  · have H3 : Hid (m.sales.length > 4 ∨ m.chests.length > 4 ∨ m.notes.length > 5) := by show _; rw [HLs.out, HLc.out, HLn.out]; exact h3
    have h3' := h3
    clear h3
    go_enter Tryz.func49, Tryz.ntmps49
    go_wp2_with (first | (go_at_call 106; obtain ⟨W0, hNW0, BX, hW0, hzW0⟩ := Box.named w (MktV.cs v) 33; rw [hNW0]; clear hNW0; refine (hF _ (h.loft.below hW0)).mono ?_; rintro e w1 ⟨rfl, hb1⟩; have c0 := (BX.lift hb1).cell 0 (.int .i64 v.loft.last) rfl; have c1 := (BX.lift hb1).cell 1 (.slice v.loft.air.a v.loft.air.n v.loft.air.c) rfl; have c2 := (BX.lift hb1).cell 2 (.slice v.loft.shelves.a v.loft.shelves.n v.loft.shelves.c) rfl; have c3 := (BX.lift hb1).cell 3 (.slice v.loft.cakes.a v.loft.cakes.n v.loft.cakes.c) rfl; have c4 := (BX.lift hb1).cell 4 (.slice v.loft.put.a v.loft.put.n v.loft.put.c) rfl; have c5 := (BX.lift hb1).cell 5 (.slice v.loft.weights.a v.loft.weights.n v.loft.weights.c) rfl) | (go_at_call 64; refine (call_b (In_any _ _ _ _) (by assumption)).mono ?_; rintro e w3 ⟨rfl, rfl⟩) | (go_at_call 30; refine (Truths06_any v.loft m.loft hl _ (h.loft.below (below_on hW0 hb1))).mono ?_; rintro e w2 ⟨⟨ta, tn, tc⟩, rfl, hfr, hb2⟩; have htn := hfr.now.len; simp only at htn; have hz := hTN _ htn; clear htn; have hb := hb1.trans (hb2.mono hb1.size); have hw := below_on hW0 hb; have c0 := (BX.lift hb).cell 0 (.int .i64 v.loft.last) rfl; have c1 := (BX.lift hb).cell 1 (.slice v.loft.air.a v.loft.air.n v.loft.air.c) rfl; have c2 := (BX.lift hb).cell 2 (.slice v.loft.shelves.a v.loft.shelves.n v.loft.shelves.c) rfl; have c3 := (BX.lift hb).cell 3 (.slice v.loft.cakes.a v.loft.cakes.n v.loft.cakes.c) rfl; have c4 := (BX.lift hb).cell 4 (.slice v.loft.put.a v.loft.put.n v.loft.put.c) rfl; have c5 := (BX.lift hb).cell 5 (.slice v.loft.weights.a v.loft.weights.n v.loft.weights.c) rfl; have c6 := (BX.lift hb).cell 6 (.slice v.sales.a v.sales.n v.sales.c) rfl; have c7 := (BX.lift hb).cell 7 (.slice v.chests.a v.chests.n v.chests.c) rfl; have c8 := (BX.lift hb).cell 8 (.int .i64 v.step) rfl; have c9 := (BX.lift hb).cell 9 (.int .i64 v.lots) rfl; have c10 := (BX.lift hb).cell 10 (.slice v.notes.a v.notes.n v.notes.c) rfl))
    all_goals try (go_ret; exact ⟨ret_int (mf_c H1.out H2.out H3.out).symm, hw⟩)
    all_goals (exfalso; omega)
  have hC : MfC m := ⟨H1.out, H2.out, by rw [HLs.out, HLc.out, HLn.out]; exact h3⟩
  have HC := Lib.hid hC
  have h31 : v.sales.n ≤ 4 := by omega
  have h32 : v.chests.n ≤ 4 := by omega
  have h33 : v.notes.n ≤ 5 := by omega
  have hd1 : decide ((4 : Int) < (v.sales.n : Int)) = false := decide_eq_false (by omega)
  have hd2 : decide ((4 : Int) < (v.chests.n : Int)) = false := decide_eq_false (by omega)
  have hd3 : decide ((5 : Int) < (v.notes.n : Int)) = false := decide_eq_false (by omega)
  clear h3 hC
  cases h4 : inB v.step 0 20
  · have H4 : Hid (mktArgs m = false) := ma_step (by rw [← hst0.out, h4]; rfl)
    go_enter Tryz.func49, Tryz.ntmps49
    go_wp2_with (first | (go_at_call 106; obtain ⟨W0, hNW0, BX, hW0, hzW0⟩ := Box.named w (MktV.cs v) 33; rw [hNW0]; clear hNW0; refine (hF _ (h.loft.below hW0)).mono ?_; rintro e w1 ⟨rfl, hb1⟩; have c0 := (BX.lift hb1).cell 0 (.int .i64 v.loft.last) rfl; have c1 := (BX.lift hb1).cell 1 (.slice v.loft.air.a v.loft.air.n v.loft.air.c) rfl; have c2 := (BX.lift hb1).cell 2 (.slice v.loft.shelves.a v.loft.shelves.n v.loft.shelves.c) rfl; have c3 := (BX.lift hb1).cell 3 (.slice v.loft.cakes.a v.loft.cakes.n v.loft.cakes.c) rfl; have c4 := (BX.lift hb1).cell 4 (.slice v.loft.put.a v.loft.put.n v.loft.put.c) rfl; have c5 := (BX.lift hb1).cell 5 (.slice v.loft.weights.a v.loft.weights.n v.loft.weights.c) rfl) | (go_at_call 64; refine (call_b (In_any _ _ _ _) (by assumption)).mono ?_; rintro e w3 ⟨rfl, rfl⟩) | (go_at_call 30; refine (Truths06_any v.loft m.loft hl _ (h.loft.below (below_on hW0 hb1))).mono ?_; rintro e w2 ⟨⟨ta, tn, tc⟩, rfl, hfr, hb2⟩; have htn := hfr.now.len; simp only at htn; have hz := hTN _ htn; clear htn; have hb := hb1.trans (hb2.mono hb1.size); have hw := below_on hW0 hb; have c0 := (BX.lift hb).cell 0 (.int .i64 v.loft.last) rfl; have c1 := (BX.lift hb).cell 1 (.slice v.loft.air.a v.loft.air.n v.loft.air.c) rfl; have c2 := (BX.lift hb).cell 2 (.slice v.loft.shelves.a v.loft.shelves.n v.loft.shelves.c) rfl; have c3 := (BX.lift hb).cell 3 (.slice v.loft.cakes.a v.loft.cakes.n v.loft.cakes.c) rfl; have c4 := (BX.lift hb).cell 4 (.slice v.loft.put.a v.loft.put.n v.loft.put.c) rfl; have c5 := (BX.lift hb).cell 5 (.slice v.loft.weights.a v.loft.weights.n v.loft.weights.c) rfl; have c6 := (BX.lift hb).cell 6 (.slice v.sales.a v.sales.n v.sales.c) rfl; have c7 := (BX.lift hb).cell 7 (.slice v.chests.a v.chests.n v.chests.c) rfl; have c8 := (BX.lift hb).cell 8 (.int .i64 v.step) rfl; have c9 := (BX.lift hb).cell 9 (.int .i64 v.lots) rfl; have c10 := (BX.lift hb).cell 10 (.slice v.notes.a v.notes.n v.notes.c) rfl))
    go_ret
    exact ⟨ret_int (mf_d HC.out H4.out).symm, hw⟩
  cases h5 : inB v.lots 0 4
  · have H4 : Hid (mktArgs m = false) := ma_step (by rw [← hst0.out, ← hlo0.out, h4, h5]; rfl)
    go_enter Tryz.func49, Tryz.ntmps49
    go_wp2_with (first | (go_at_call 106; obtain ⟨W0, hNW0, BX, hW0, hzW0⟩ := Box.named w (MktV.cs v) 33; rw [hNW0]; clear hNW0; refine (hF _ (h.loft.below hW0)).mono ?_; rintro e w1 ⟨rfl, hb1⟩; have c0 := (BX.lift hb1).cell 0 (.int .i64 v.loft.last) rfl; have c1 := (BX.lift hb1).cell 1 (.slice v.loft.air.a v.loft.air.n v.loft.air.c) rfl; have c2 := (BX.lift hb1).cell 2 (.slice v.loft.shelves.a v.loft.shelves.n v.loft.shelves.c) rfl; have c3 := (BX.lift hb1).cell 3 (.slice v.loft.cakes.a v.loft.cakes.n v.loft.cakes.c) rfl; have c4 := (BX.lift hb1).cell 4 (.slice v.loft.put.a v.loft.put.n v.loft.put.c) rfl; have c5 := (BX.lift hb1).cell 5 (.slice v.loft.weights.a v.loft.weights.n v.loft.weights.c) rfl) | (go_at_call 64; refine (call_b (In_any _ _ _ _) (by assumption)).mono ?_; rintro e w3 ⟨rfl, rfl⟩) | (go_at_call 30; refine (Truths06_any v.loft m.loft hl _ (h.loft.below (below_on hW0 hb1))).mono ?_; rintro e w2 ⟨⟨ta, tn, tc⟩, rfl, hfr, hb2⟩; have htn := hfr.now.len; simp only at htn; have hz := hTN _ htn; clear htn; have hb := hb1.trans (hb2.mono hb1.size); have hw := below_on hW0 hb; have c0 := (BX.lift hb).cell 0 (.int .i64 v.loft.last) rfl; have c1 := (BX.lift hb).cell 1 (.slice v.loft.air.a v.loft.air.n v.loft.air.c) rfl; have c2 := (BX.lift hb).cell 2 (.slice v.loft.shelves.a v.loft.shelves.n v.loft.shelves.c) rfl; have c3 := (BX.lift hb).cell 3 (.slice v.loft.cakes.a v.loft.cakes.n v.loft.cakes.c) rfl; have c4 := (BX.lift hb).cell 4 (.slice v.loft.put.a v.loft.put.n v.loft.put.c) rfl; have c5 := (BX.lift hb).cell 5 (.slice v.loft.weights.a v.loft.weights.n v.loft.weights.c) rfl; have c6 := (BX.lift hb).cell 6 (.slice v.sales.a v.sales.n v.sales.c) rfl; have c7 := (BX.lift hb).cell 7 (.slice v.chests.a v.chests.n v.chests.c) rfl; have c8 := (BX.lift hb).cell 8 (.int .i64 v.step) rfl; have c9 := (BX.lift hb).cell 9 (.int .i64 v.lots) rfl; have c10 := (BX.lift hb).cell 10 (.slice v.notes.a v.notes.n v.notes.c) rfl))
    go_ret
    exact ⟨ret_int (mf_d HC.out H4.out).symm, hw⟩
  have H4 : Hid (inB m.step 0 20 = true) := by show _; rw [← hst0.out]; exact h4
  have H5 : Hid (inB m.lots 0 4 = true) := by show _; rw [← hlo0.out]; exact h5
  go_enter Tryz.func49, Tryz.ntmps49
  go_wp2_with (first | (go_at_call 106; obtain ⟨W0, hNW0, BX, hW0, hzW0⟩ := Box.named w (MktV.cs v) 33; rw [hNW0]; clear hNW0; refine (hF _ (h.loft.below hW0)).mono ?_; rintro e w1 ⟨rfl, hb1⟩; have c0 := (BX.lift hb1).cell 0 (.int .i64 v.loft.last) rfl; have c1 := (BX.lift hb1).cell 1 (.slice v.loft.air.a v.loft.air.n v.loft.air.c) rfl; have c2 := (BX.lift hb1).cell 2 (.slice v.loft.shelves.a v.loft.shelves.n v.loft.shelves.c) rfl; have c3 := (BX.lift hb1).cell 3 (.slice v.loft.cakes.a v.loft.cakes.n v.loft.cakes.c) rfl; have c4 := (BX.lift hb1).cell 4 (.slice v.loft.put.a v.loft.put.n v.loft.put.c) rfl; have c5 := (BX.lift hb1).cell 5 (.slice v.loft.weights.a v.loft.weights.n v.loft.weights.c) rfl) | (go_at_call 64; refine (call_b (In_any _ _ _ _) (by assumption)).mono ?_; rintro e w3 ⟨rfl, rfl⟩) | (go_at_call 30; refine (Truths06_any v.loft m.loft hl _ (h.loft.below (below_on hW0 hb1))).mono ?_; rintro e w2 ⟨⟨ta, tn, tc⟩, rfl, hfr, hb2⟩; have htn := hfr.now.len; simp only at htn; have hz := hTN _ htn; clear htn; have hb := hb1.trans (hb2.mono hb1.size); have hw := below_on hW0 hb; have c0 := (BX.lift hb).cell 0 (.int .i64 v.loft.last) rfl; have c1 := (BX.lift hb).cell 1 (.slice v.loft.air.a v.loft.air.n v.loft.air.c) rfl; have c2 := (BX.lift hb).cell 2 (.slice v.loft.shelves.a v.loft.shelves.n v.loft.shelves.c) rfl; have c3 := (BX.lift hb).cell 3 (.slice v.loft.cakes.a v.loft.cakes.n v.loft.cakes.c) rfl; have c4 := (BX.lift hb).cell 4 (.slice v.loft.put.a v.loft.put.n v.loft.put.c) rfl; have c5 := (BX.lift hb).cell 5 (.slice v.loft.weights.a v.loft.weights.n v.loft.weights.c) rfl; have c6 := (BX.lift hb).cell 6 (.slice v.sales.a v.sales.n v.sales.c) rfl; have c7 := (BX.lift hb).cell 7 (.slice v.chests.a v.chests.n v.chests.c) rfl; have c8 := (BX.lift hb).cell 8 (.int .i64 v.step) rfl; have c9 := (BX.lift hb).cell 9 (.int .i64 v.lots) rfl; have c10 := (BX.lift hb).cell 10 (.slice v.notes.a v.notes.n v.notes.c) rfl))
  clear c0 c1 c2 c3 c4 c5 c6 c7 c8 c9 c10 hz hfr
  have BXw := BX.lift hb
  clear BX hb1 hb2 hb hW0 h4 h5
  go_loopw [4] (fun i wr => ∃ k : Nat, ∃ last : Int, k ≤ v.sales.n ∧ i = .int .i64 k ∧ Hid (salesLast (m.sales.take k) = some last) ∧ Below w2.heap.size w2 wr) (fun i _ => v.sales.n - (intOf i).toNat)
  case atStart => exact ⟨0, -1, Nat.zero_le _, rfl, by simp [Hid, salesLast], Below.refl _ _⟩
  case round =>
    obtain ⟨k, last, hk, rfl, hq, hb⟩ := hrel
    have hwr := below_on hw hb
    have c6 := (BXw.lift hb).cell 6 (.slice v.sales.a v.sales.n v.sales.c) rfl
    by_cases hlt : k < v.sales.n
    · obtain ⟨x, hx⟩ := at_of_lt HLs.out hlt
      obtain ⟨b, o, ha, hbl, hc1, hc2, hc3⟩ := h.sales.sale_at hx
      have HX := Lib.hid hx
      rw [ha] at c6
      clear hx
      have y1 := lift hwr hc1
      have y2 := lift hwr hc2
      have y3 := lift hwr hc3
      have hgeL := sLast_ge hq.out
      have hst : salesLast (m.sales.take (k + 1)) = if inB x.day (last + 1) 9 && x.price.upTo 20 then some x.day else none := by
        rw [salesLast_at HX.out, hq.out]; rfl
      have HST := Lib.hid hst
      clear hst
      go_wp2
      obtain ⟨W3, hNW3, BX3, hW3, hzW3⟩ := Box.named wr #[.int .i64 x.day, .int .i64 x.price.lo, .int .i64 x.price.hi] 93
      rw [hNW3]
      clear hNW3
      have hb3 := hb.trans (hW3.mono hb.size)
      have hw3 := below_on hw hb3
      have c6 := (BXw.lift hb3).cell 6 (.slice v.sales.a v.sales.n v.sales.c) rfl
      rw [ha] at c6
      have e0 := BX3.cell 0 (.int .i64 x.day) rfl
      have e1 := BX3.cell 1 (.int .i64 x.price.lo) rfl
      have e2 := BX3.cell 2 (.int .i64 x.price.hi) rfl
      have HBAD : Hid ((inB x.day (last + 1) 9 && x.price.upTo 20) = false → 1 = mktFault m) := fun e => by
        refine (mf_d HC.out (ma_sales (salesLast_none (k := k + 1) ?_))).symm
        rw [HST.out, e]; rfl
      cases hin : inB x.day 0 9
      · have HIN := Lib.hid hin
        have zz0 := fun x : After W3 => At.cell c6 x
        have zz1 := fun x : After W3 => At.cell e0 x
        have zz2 := fun x : After W3 => At.cell e1 x
        have zz3 := fun x : After W3 => At.cell e2 x
        refine wp_region_after (by kernel_rfl) (by kernel_rfl) ?_
        repeat (go_big_quiet_step ((go_at_call 64; exact after_same (call_b (In_any _ _ _ _) hin))))
        refine wpQuiet_nil ?_
        intro W4 hbW4
        clear zz0 zz1 zz2 zz3
        go_wp2
        go_ret
        refine ⟨ret_int (HBAD.out ?_), below_on hw3 hbW4⟩
        have : inB x.day (last + 1) 9 = false := by
          rw [← Bool.not_eq_true, inB_iff]; intro hh
          have : inB x.day 0 9 = true := inB_iff.2 ⟨by omega, hh.2⟩
          rw [HIN.out] at this; cases this
        rw [this]; rfl
      have HIN := Lib.hid hin
      cases hpr : x.price.upTo 20
      · have HPR := Lib.hid hpr
        have zz0 := fun x : After W3 => At.cell c6 x
        have zz1 := fun x : After W3 => At.cell e0 x
        have zz2 := fun x : After W3 => At.cell e1 x
        have zz3 := fun x : After W3 => At.cell e2 x
        refine wp_region_after (by kernel_rfl) (by kernel_rfl) ?_
        repeat (go_big_quiet_step ((first | (go_at_call 64; exact after_same (call_b (In_any _ _ _ _) hin)) | (go_at_call 107; exact after_call (call_b (Inside_any _ _ _ _) hpr)))))
        refine wpQuiet_nil ?_
        intro W4 hbW4
        clear zz0 zz1 zz2 zz3
        go_wp2
        go_ret
        exact ⟨ret_int (HBAD.out (by rw [HPR.out, Bool.and_false])), below_on hw3 hbW4⟩
      have HPR := Lib.hid hpr
      cases k with
      | zero =>
        have hl : Hid (last = -1) := by
          have h1 := hq.out
          simp [salesLast] at h1
          exact h1.symm
        have zz0 := fun x : After W3 => At.cell c6 x
        have zz1 := fun x : After W3 => At.cell e0 x
        have zz2 := fun x : After W3 => At.cell e1 x
        have zz3 := fun x : After W3 => At.cell e2 x
        refine wp_region_after (by kernel_rfl) (by kernel_rfl) ?_
        repeat (go_big_quiet_step ((first | (go_at_call 64; exact after_same (call_b (In_any _ _ _ _) hin)) | (go_at_call 107; exact after_call (call_b (Inside_any _ _ _ _) hpr)))))
        refine wpQuiet_nil ?_
        intro W4 hbW4
        clear zz0 zz1 zz2 zz3
        go_wp2
        go_roundw
        case rel => exact ⟨1, x.day, by omega, by go_num, by
          show salesLast (m.sales.take (0 + 1)) = some x.day
          have := HIN.out
          rw [HST.out, hl.out, HPR.out]; simp [this], below_on hb3 hbW4⟩
        case measure => simp [intOf]; omega
      | succ j =>
        obtain ⟨y, hy⟩ := at_of_lt HLs.out (show j < v.sales.n by omega)
        have hl : Hid (last = y.day) := by
          have h1 := hq.out
          have h2 := salesLast_eq (l := m.sales) (k := j + 1) (by have := HLs.out; omega) (by rw [h1]; simp)
          rw [h2] at h1
          simp [sLast, hy] at h1
          exact h1.symm
        obtain ⟨b', o', ha', hbl', hd1, _⟩ := h.sales.sale_at hy
        rw [ha] at ha'
        simp only [Option.some.injEq, Addr.mk.injEq, and_true] at ha'
        obtain ⟨rfl, rfl⟩ := ha'
        have z1 := lift hw3 hd1
        clear hy
        by_cases hxy : x.day ≤ y.day
        · have HXY := Lib.hid hxy
          have zz0 := fun x : After W3 => At.cell c6 x
          have zz1 := fun x : After W3 => At.cell e0 x
          have zz2 := fun x : After W3 => At.cell e1 x
          have zz3 := fun x : After W3 => At.cell e2 x
          have zz4 := fun x : After W3 => At.cell z1 x
          refine wp_region_after (by kernel_rfl) (by kernel_rfl) ?_
          repeat (go_big_quiet_step ((first | (go_at_call 64; exact after_same (call_b (In_any _ _ _ _) hin)) | (go_at_call 107; exact after_call (call_b (Inside_any _ _ _ _) hpr)))))
          refine wpQuiet_nil ?_
          intro W4 hbW4
          clear zz0 zz1 zz2 zz3 zz4
          go_wp2
          go_ret
          refine ⟨ret_int (HBAD.out ?_), below_on hw3 hbW4⟩
          have : inB x.day (last + 1) 9 = false := by
            rw [← Bool.not_eq_true, inB_iff, hl.out]
            have := HXY.out
            omega
          rw [this]; rfl
        · have HXY := Lib.hid hxy
          have zz0 := fun x : After W3 => At.cell c6 x
          have zz1 := fun x : After W3 => At.cell e0 x
          have zz2 := fun x : After W3 => At.cell e1 x
          have zz3 := fun x : After W3 => At.cell e2 x
          have zz4 := fun x : After W3 => At.cell z1 x
          refine wp_region_after (by kernel_rfl) (by kernel_rfl) ?_
          repeat (go_big_quiet_step ((first | (go_at_call 64; exact after_same (call_b (In_any _ _ _ _) hin)) | (go_at_call 107; exact after_call (call_b (Inside_any _ _ _ _) hpr)))))
          refine wpQuiet_nil ?_
          intro W4 hbW4
          clear zz0 zz1 zz2 zz3 zz4
          go_wp2
          go_roundw
          case rel => exact ⟨j + 1 + 1, x.day, by omega, by go_num, by
            show salesLast (m.sales.take (j + 1 + 1)) = some x.day
            have h2 := inB_iff.1 HIN.out
            have := HXY.out
            rw [HST.out, hl.out, HPR.out, inB_iff.2 ⟨by omega, h2.2⟩]; rfl, below_on hb3 hbW4⟩
          case measure => simp [intOf]; omega
    · obtain rfl : k = v.sales.n := by omega
      have HS : Hid (salesOk m.sales = true) := by
        have h1 := hq.out
        rw [take_len HLs.out] at h1
        show salesOk _ = true
        rw [salesOk, h1]; rfl
      clear hq c6 hlt
      obtain ⟨W5, rfl⟩ : ∃ W5 : World, W5 = wr := ⟨_, rfl⟩
      have hw5 := hwr
      have BX5 := BXw.lift hb
      clear BXw hb hw hwr hk
      have c6 := BX5.cell 6 (.slice v.sales.a v.sales.n v.sales.c) rfl
      go_wp2
      clear c6
      go_loopw [6] (fun i wr => ∃ k : Nat, k ≤ v.chests.n ∧ i = .int .i64 k ∧ Hid ((m.chests.take k).all (chestOk m.loft.cakes.length) = true) ∧ Below W5.heap.size W5 wr) (fun i _ => v.chests.n - (intOf i).toNat)
      case atStart => exact ⟨0, Nat.zero_le _, rfl, by simp [Hid], Below.refl _ _⟩
      case round =>
        obtain ⟨k, hk, rfl, hq, hb⟩ := hrel
        have hwr := below_on hw5 hb
        have c0 := (BX5.lift hb).cell 0 (.int .i64 v.loft.last) rfl
        have c1 := (BX5.lift hb).cell 1 (.slice v.loft.air.a v.loft.air.n v.loft.air.c) rfl
        have c2 := (BX5.lift hb).cell 2 (.slice v.loft.shelves.a v.loft.shelves.n v.loft.shelves.c) rfl
        have c3 := (BX5.lift hb).cell 3 (.slice v.loft.cakes.a v.loft.cakes.n v.loft.cakes.c) rfl
        have c4 := (BX5.lift hb).cell 4 (.slice v.loft.put.a v.loft.put.n v.loft.put.c) rfl
        have c5 := (BX5.lift hb).cell 5 (.slice v.loft.weights.a v.loft.weights.n v.loft.weights.c) rfl
        have c6 := (BX5.lift hb).cell 6 (.slice v.sales.a v.sales.n v.sales.c) rfl
        have c7 := (BX5.lift hb).cell 7 (.slice v.chests.a v.chests.n v.chests.c) rfl
        have c8 := (BX5.lift hb).cell 8 (.int .i64 v.step) rfl
        have c9 := (BX5.lift hb).cell 9 (.int .i64 v.lots) rfl
        have c10 := (BX5.lift hb).cell 10 (.slice v.notes.a v.notes.n v.notes.c) rfl
        have hlt0 := (BX5.lift hb).lt
        by_cases hlt : k < v.chests.n
        · obtain ⟨x, hx⟩ := at_of_lt HLc.out hlt
          obtain ⟨b, o, ty, ha, hbl, hc1, hc2, hyc⟩ := h.chests.chest_at hx
          have HX := Lib.hid hx
          rw [ha] at c7
          clear hx
          have y1 := lift hwr hc1
          have y2 := lift hwr hc2
          have HBAD : Hid (chestOk m.loft.cakes.length x = false → 1 = mktFault m) := fun e => (mf_d HC.out (ma_chests (all_of_at _ HX.out e))).symm
          have HAD := Lib.hid ha
          clear ha
          cases hac : areCakes m.loft.cakes.length x.cakes
          · have HAC := Lib.hid hac
            go_wp2_with (go_at_call 108; obtain ⟨W3, hNW3, BX3, hW3, hzW3⟩ := Box.named wr #[.slice ty.a ty.n ty.c, .int .i64 x.reserve] 87; rw [hNW3]; clear hNW3; have hb3 := hb.trans (hW3.mono hb.size); have hw3 := below_on hw5 hb3; rw [← HAD.out]; refine (call_b (AreCakes_any v m ty x.cakes _ (h.below hw3) (hyc.below (encR_mono _) hw3)) hac).mono ?_; rintro e w4 ⟨rfl, hb4⟩; have e1 := (BX3.lift hb4).cell 1 (.int .i64 x.reserve) rfl)
            go_ret
            exact ⟨ret_int (HBAD.out (by rw [chestOk, HAC.out]; rfl)), below_on hw3 hb4⟩
          have HAC := Lib.hid hac
          cases hrs : inB x.reserve 0 20
          · have HRS := Lib.hid hrs
            go_wp2_with (first | (go_at_call 64; refine (call_b (In_any _ _ _ _) hrs).mono ?_; rintro e w5 ⟨rfl, rfl⟩) | (go_at_call 108; obtain ⟨W3, hNW3, BX3, hW3, hzW3⟩ := Box.named wr #[.slice ty.a ty.n ty.c, .int .i64 x.reserve] 87; rw [hNW3]; clear hNW3; have hb3 := hb.trans (hW3.mono hb.size); have hw3 := below_on hw5 hb3; rw [← HAD.out]; refine (call_b (AreCakes_any v m ty x.cakes _ (h.below hw3) (hyc.below (encR_mono _) hw3)) hac).mono ?_; rintro e w4 ⟨rfl, hb4⟩; have e1 := (BX3.lift hb4).cell 1 (.int .i64 x.reserve) rfl))
            go_ret
            exact ⟨ret_int (HBAD.out (by rw [chestOk, HRS.out, Bool.and_false])), below_on hw3 hb4⟩
          have HRS := Lib.hid hrs
          go_wp2_with (first | (go_at_call 64; refine (call_b (In_any _ _ _ _) hrs).mono ?_; rintro e w5 ⟨rfl, rfl⟩) | (go_at_call 108; obtain ⟨W3, hNW3, BX3, hW3, hzW3⟩ := Box.named wr #[.slice ty.a ty.n ty.c, .int .i64 x.reserve] 87; rw [hNW3]; clear hNW3; have hb3 := hb.trans (hW3.mono hb.size); have hw3 := below_on hw5 hb3; rw [← HAD.out]; refine (call_b (AreCakes_any v m ty x.cakes _ (h.below hw3) (hyc.below (encR_mono _) hw3)) hac).mono ?_; rintro e w4 ⟨rfl, hb4⟩; have e1 := (BX3.lift hb4).cell 1 (.int .i64 x.reserve) rfl))
          go_roundw
          case rel => exact ⟨k + 1, by omega, by go_num, by
            show (m.chests.take (k + 1)).all _ = true
            rw [take_all _ HX.out, hq.out, chestOk, HAC.out, HRS.out]; rfl, below_on hb3 hb4⟩
          case measure => simp [intOf]; omega
        · obtain rfl : k = v.chests.n := by omega
          have HCH : Hid (m.chests.all (chestOk m.loft.cakes.length) = true) := by
            have h1 := hq.out
            rwa [take_len HLc.out] at h1
          clear hq hlt c7
          obtain ⟨W6, rfl⟩ : ∃ W6 : World, W6 = wr := ⟨_, rfl⟩
          have hw6 := hwr
          have BX6 := BX5.lift hb
          clear BX5 hb hwr hk hw5
          have c0 := BX6.cell 0 (.int .i64 v.loft.last) rfl
          have c1 := BX6.cell 1 (.slice v.loft.air.a v.loft.air.n v.loft.air.c) rfl
          have c2 := BX6.cell 2 (.slice v.loft.shelves.a v.loft.shelves.n v.loft.shelves.c) rfl
          have c3 := BX6.cell 3 (.slice v.loft.cakes.a v.loft.cakes.n v.loft.cakes.c) rfl
          have c4 := BX6.cell 4 (.slice v.loft.put.a v.loft.put.n v.loft.put.c) rfl
          have c5 := BX6.cell 5 (.slice v.loft.weights.a v.loft.weights.n v.loft.weights.c) rfl
          have c6 := BX6.cell 6 (.slice v.sales.a v.sales.n v.sales.c) rfl
          have c7 := BX6.cell 7 (.slice v.chests.a v.chests.n v.chests.c) rfl
          have c8 := BX6.cell 8 (.int .i64 v.step) rfl
          have c9 := BX6.cell 9 (.int .i64 v.lots) rfl
          have c10 := BX6.cell 10 (.slice v.notes.a v.notes.n v.notes.c) rfl
          cases hap : decide (apart m.chests)
          · have HAP := Lib.hid hap
            go_wp2_with (go_at_call 109; refine (call_b (Apart_any v m _ (h.below hw6)) hap).mono ?_; rintro e w4 ⟨rfl, hb4⟩)
            go_ret
            exact ⟨ret_int (mf_d HC.out (ma_apart HAP.out)).symm, below_on hw6 hb4⟩
          have HAP := Lib.hid hap
          go_wp2_with (go_at_call 109; refine (call_b (Apart_any v m _ (h.below hw6)) hap).mono ?_; rintro e W7 ⟨rfl, hb4⟩)
          clear c0 c1 c2 c3 c4 c5 c6 c7 c8 c9 c10
          have hw7 := below_on hw6 hb4
          have BX7 := BX6.lift hb4
          clear BX6 hb4 hw6
          go_loopw [8] (fun i wr => ∃ k : Nat, k ≤ v.notes.n ∧ i = .int .i64 k ∧ Hid ((m.notes.take k).all (noteOk m.sales.length) = true) ∧ Below W7.heap.size W7 wr) (fun i _ => v.notes.n - (intOf i).toNat)
          case atStart => exact ⟨0, Nat.zero_le _, rfl, by simp [Hid], Below.refl _ _⟩
          case round =>
            obtain ⟨k, hk, rfl, hq, hb⟩ := hrel
            have hwr := below_on hw7 hb
            by_cases hlt : k < v.notes.n
            · have c6 := (BX7.lift hb).cell 6 (.slice v.sales.a v.sales.n v.sales.c) rfl
              have c10 := (BX7.lift hb).cell 10 (.slice v.notes.a v.notes.n v.notes.c) rfl
              have hlt0 := (BX7.lift hb).lt
              obtain ⟨x, hx⟩ := at_of_lt HLn.out hlt
              obtain ⟨b, o, ha, hbl, hc1, hc2, hc3⟩ := h.notes.note_at hx
              have HX := Lib.hid hx
              rw [ha] at c10
              clear hx ha
              have y1 := lift hwr hc1
              have y2 := lift hwr hc2
              have y3 := lift hwr hc3
              have HBAD : Hid (noteOk m.sales.length x = false → 1 = mktFault m) := fun e => (mf_d HC.out (ma_notes (all_of_at _ HX.out e))).symm
              have HNK : Hid (noteOk m.sales.length x = (inB x.sale 0 (v.sales.n - 1) && x.price.upTo 20)) := by show _ = _; rw [noteOk, HLs.out]
              cases hin : inB x.sale 0 (v.sales.n - 1)
              · have HIN := Lib.hid hin
                go_wp2_with (go_at_call 64; obtain ⟨W3, hNW3, BX3, hW3, hzW3⟩ := Box.named wr #[.int .i64 x.sale, .int .i64 x.price.lo, .int .i64 x.price.hi] 107; rw [hNW3]; clear hNW3; have hb3 := hb.trans (hW3.mono hb.size); have hw3 := below_on hw7 hb3; refine (call_b (In_any _ _ _ _) hin).mono ?_; rintro e w5 ⟨rfl, rfl⟩; have e1 := BX3.cell 1 (.int .i64 x.price.lo) rfl; have e2 := BX3.cell 2 (.int .i64 x.price.hi) rfl)
                go_ret
                exact ⟨ret_int (HBAD.out (by rw [HNK.out, HIN.out]; rfl)), hw3⟩
              have HIN := Lib.hid hin
              cases hpr : x.price.upTo 20
              · have HPR := Lib.hid hpr
                go_wp2_with (first | (go_at_call 64; obtain ⟨W3, hNW3, BX3, hW3, hzW3⟩ := Box.named wr #[.int .i64 x.sale, .int .i64 x.price.lo, .int .i64 x.price.hi] 107; rw [hNW3]; clear hNW3; have hb3 := hb.trans (hW3.mono hb.size); have hw3 := below_on hw7 hb3; refine (call_b (In_any _ _ _ _) hin).mono ?_; rintro e w5 ⟨rfl, rfl⟩; have e1 := BX3.cell 1 (.int .i64 x.price.lo) rfl; have e2 := BX3.cell 2 (.int .i64 x.price.hi) rfl) | (go_at_call 107; refine (call_b (Inside_any _ _ _ _) hpr).mono ?_; rintro e w4 ⟨rfl, hb4⟩))
                go_ret
                exact ⟨ret_int (HBAD.out (by rw [HNK.out, HPR.out, Bool.and_false])), below_on hw3 hb4⟩
              have HPR := Lib.hid hpr
              go_wp2_with (first | (go_at_call 64; obtain ⟨W3, hNW3, BX3, hW3, hzW3⟩ := Box.named wr #[.int .i64 x.sale, .int .i64 x.price.lo, .int .i64 x.price.hi] 107; rw [hNW3]; clear hNW3; have hb3 := hb.trans (hW3.mono hb.size); have hw3 := below_on hw7 hb3; refine (call_b (In_any _ _ _ _) hin).mono ?_; rintro e w5 ⟨rfl, rfl⟩; have e1 := BX3.cell 1 (.int .i64 x.price.lo) rfl; have e2 := BX3.cell 2 (.int .i64 x.price.hi) rfl) | (go_at_call 107; refine (call_b (Inside_any _ _ _ _) hpr).mono ?_; rintro e w4 ⟨rfl, hb4⟩))
              go_roundw
              case rel => exact ⟨k + 1, by omega, by go_num, by
                show (m.notes.take (k + 1)).all _ = true
                rw [take_all _ HX.out, hq.out, HNK.out, HIN.out, HPR.out]; rfl, below_on hb3 hb4⟩
              case measure => simp [intOf]; omega
            · have c0 := (BX7.lift hb).cell 0 (.int .i64 v.loft.last) rfl
              have c1 := (BX7.lift hb).cell 1 (.slice v.loft.air.a v.loft.air.n v.loft.air.c) rfl
              have c2 := (BX7.lift hb).cell 2 (.slice v.loft.shelves.a v.loft.shelves.n v.loft.shelves.c) rfl
              have c3 := (BX7.lift hb).cell 3 (.slice v.loft.cakes.a v.loft.cakes.n v.loft.cakes.c) rfl
              have c4 := (BX7.lift hb).cell 4 (.slice v.loft.put.a v.loft.put.n v.loft.put.c) rfl
              have c5 := (BX7.lift hb).cell 5 (.slice v.loft.weights.a v.loft.weights.n v.loft.weights.c) rfl
              have c6 := (BX7.lift hb).cell 6 (.slice v.sales.a v.sales.n v.sales.c) rfl
              have c7 := (BX7.lift hb).cell 7 (.slice v.chests.a v.chests.n v.chests.c) rfl
              have c8 := (BX7.lift hb).cell 8 (.int .i64 v.step) rfl
              have c9 := (BX7.lift hb).cell 9 (.int .i64 v.lots) rfl
              have c10 := (BX7.lift hb).cell 10 (.slice v.notes.a v.notes.n v.notes.c) rfl
              obtain rfl : k = v.notes.n := by omega
              have HN : Hid (m.notes.all (noteOk m.sales.length) = true) := by
                have h1 := hq.out
                rwa [take_len HLn.out] at h1
              have HR : Hid (mktFault m = if capMul 3000 m.sizes > 2000 then 3 else 0) := mf_e HC.out (ma_all H4.out H5.out HS.out HCH.out HAP.out HN.out)
              clear hq
              by_cases hm : capMul 3000 m.sizes > 2000
              · have HM := Lib.hid hm
                go_wp2_with (go_at_call 83; refine (Many10_any v m _ (h.below hwr) (salesOk_prices HS.out)).mono ?_; rintro e w4 ⟨rfl, hb4⟩)
                go_ret
                exact ⟨ret_int (by rw [HR.out, if_pos HM.out]), below_on hwr hb4⟩
              · have HM := Lib.hid hm
                go_wp2_with (go_at_call 83; refine (Many10_any v m _ (h.below hwr) (salesOk_prices HS.out)).mono ?_; rintro e w4 ⟨rfl, hb4⟩)
                go_ret
                exact ⟨ret_int (by rw [HR.out, if_neg (by have := HM.out; omega)]), below_on hwr hb4⟩
end Go.Proofs.YtenfnakhijobkaaGreat
namespace Go.Proofs.YtenfnakhijobkaaGreat
open Go.RowKit Go.Proofs.YtenfnakhijobkaaGreatW.PrintLast
theorem run_append_zero {P : Program} {w : World} (base : Nat) (t ty e : TypeId) (i : TypeInfo) (size c : Nat) (ht : P.underlying t = some (.slice e)) (hi : P.info? e = some i)
    (v : Value) (n : Nat) (xs : List Value) (hown : w.ownsRow base e size v n xs) :
    (Builtin.append_ #[t, t] ty #[v, .slice none 0 c]).run P w = .ok v w := by
  rcases hown.2 with ⟨rfl, rfl⟩ | ⟨g, cap, cur, rfl, _, _, hnc, _⟩
  · simp [Builtin.append_, run_underlying ht, sizeOf, typeInfo, hi, Builtin.lenOf, Builtin.firstCells]
  · simp [Builtin.append_, run_underlying ht, sizeOf, typeInfo, hi, Builtin.lenOf, Builtin.firstCells, hnc, storeCells]
theorem wpList_append_zero {P : Program} {w : World} {ops : Array Oper} {rest : List Oper} {o : Oper} {a : Act} {Q : Exit → Act → World → Prop} (hgd : o.guard = none) (s x : Operand) (t : TypeId)
    (ho : o.op = .call { callee := .builtin .append, args := #[s, x], argTypes := #[t, t] })
    (base : Nat) (e : TypeId) (i : TypeInfo) (size c : Nat) (ht : P.underlying t = some (.slice e)) (hi : P.info? e = some i)
    (v : Value) (n : Nat) (xs : List Value) (hs : a.eval s = v) (hown : w.ownsRow base e size v n xs) (hx : a.eval x = .slice none 0 c)
    (h : wpList P ops Q rest (a.put o.dst v) w) : wpList P ops Q (o :: rest) a w := by
  refine wpList_plain hgd fun K hK => ?_
  have hrun := run_append_zero (P := P) (w := w) base t o.type e i size c ht hi v n xs hown
  unfold Oper.wp
  simp [execOp, ho, resolve, invoke, builtin, hs, hx, hrun, Result.andThen]
  exact hK _ _ h
theorem list06_any (s : Sl) (xs : List Int) (w : World) (h : RdInts w s xs) (hn : s.n ≤ 100000) :
    Calls Tryz.prog 111 #[.slice s.a s.n s.c] w (RetInts w xs) := by
  obtain ⟨sa, sn, sc⟩ := s
  have HL : Hid (xs.length = sn) := h.len
  obtain ⟨i0, hi0, hz0, hz1, hz2⟩ := info_parts info3
  have HI := Lib.hid hi0
  have HZ0 := Lib.hid hz0
  have HZ1 := Lib.hid hz1
  have HZ2 := Lib.hid hz2
  clear hi0 hz0 hz1 hz2
  simp only at hn
  have L1 : Hid ((xs.flatMap (fun x : Int => [Value.int .i64 x])).length = sn * 1) := by show _ = _; rw [← HL.out]; exact flat_len (f := (fun x : Int => [Value.int .i64 x])) (fun _ => rfl) xs
  have L2 : Hid (∀ u ∈ xs.flatMap (fun x : Int => [Value.int .i64 x]), u.oneCell' = true) := fun u hu => by
    obtain ⟨x, _, hx⟩ := List.mem_flatMap.1 hu
    simp at hx
    first | (subst hx; rfl) | (rcases hx with rfl | rfl <;> rfl)
  cases sa with
  | none =>
    have hnil := h.nil_of rfl
    have HN := Lib.hid hnil
    clear hnil
    have h0 : sn = 0 := by have := HL.out; rw [HN.out] at this; exact this.symm
    subst h0
    go_enter Tryz.func111, Tryz.ntmps111
    go_wp2_with (at_builtin; refine wpList_append_zero _ rfl _ _ 25 rfl w.heap.size 3 i0 1 sc Tryz.underlying25 HI.out (.slice none 0 0) 0 [] rfl (World.ownsRow_nil _ _ _ _) rfl ?_)
    go_ret
    rw [HN.out]
    exact ⟨⟨none, 0, 0⟩, rfl, fun w' _ _ => rd_nil0 _ _ _ _ _, Below.refl _ _⟩
  | some ad =>
    have HC : Hid (∀ j u, (xs.flatMap (fun x : Int => [Value.int .i64 x]))[j]? = some u → w.cell? (ad.add j) = some u) := fun j u hj => h.flat (f := (fun x : Int => [Value.int .i64 x])) (fun _ => rfl) (by decide) ad rfl j u hj
    have m1 : Hid (0 + sn ≤ maxLen) := by show _ ≤ _; unfold maxLen; omega
    have m2 : Hid ((0 + sn) * 8 ≤ 140737488355328) := by show _ ≤ _; omega
    go_enter Tryz.func111, Tryz.ntmps111
    go_wp2_with (at_builtin; refine wpList_append_own _ rfl _ _ 25 rfl w.heap.size 3 i0 _ 1 8 Tryz.underlying25 HI.out HZ0.out HZ1.out HZ2.out rfl (by decide) (.slice none 0 0) 0 [] rfl (World.ownsRow_nil _ _ _ _) ad sn sc (xs.flatMap (fun x : Int => [Value.int .i64 x])) rfl L1.out HC.out L2.out m1.out m2.out (by simp) ?_; intro v' w1 hown hgrow hnil)
    go_wp2
    go_ret
    obtain ⟨s, rfl, hsn, hsb, hfr⟩ := own_fr (f := fun x : Int => [Value.int .i64 x]) (fun _ => rfl) HL.out (by rw [Nat.mul_one]; omega) (show w1.ownsRow w.heap.size 3 1 v' sn (xs.flatMap (fun x : Int => [Value.int .i64 x])) by simpa using hown)
    exact ⟨s, rfl, hfr, (Below.refl _ w).grown hgrow (by simp) (fun k hk => ((World.ownsRow_nil w w.heap.size 3 1).lt k hk).1)⟩
theorem list10_any (s : Sl) (xs : List Int) (w : World) (h : RdInts w s xs) (hn : s.n ≤ 100000) :
    Calls Tryz.prog 36 #[.slice s.a s.n s.c] w (RetInts w xs) := by
  obtain ⟨sa, sn, sc⟩ := s
  have HL : Hid (xs.length = sn) := h.len
  obtain ⟨i0, hi0, hz0, hz1, hz2⟩ := info_parts info3
  have HI := Lib.hid hi0
  have HZ0 := Lib.hid hz0
  have HZ1 := Lib.hid hz1
  have HZ2 := Lib.hid hz2
  clear hi0 hz0 hz1 hz2
  simp only at hn
  have L1 : Hid ((xs.flatMap (fun x : Int => [Value.int .i64 x])).length = sn * 1) := by show _ = _; rw [← HL.out]; exact flat_len (f := (fun x : Int => [Value.int .i64 x])) (fun _ => rfl) xs
  have L2 : Hid (∀ u ∈ xs.flatMap (fun x : Int => [Value.int .i64 x]), u.oneCell' = true) := fun u hu => by
    obtain ⟨x, _, hx⟩ := List.mem_flatMap.1 hu
    simp at hx
    first | (subst hx; rfl) | (rcases hx with rfl | rfl <;> rfl)
  cases sa with
  | none =>
    have hnil := h.nil_of rfl
    have HN := Lib.hid hnil
    clear hnil
    have h0 : sn = 0 := by have := HL.out; rw [HN.out] at this; exact this.symm
    subst h0
    go_enter Tryz.func36, Tryz.ntmps36
    go_wp2_with (at_builtin; refine wpList_append_zero _ rfl _ _ 25 rfl w.heap.size 3 i0 1 sc Tryz.underlying25 HI.out (.slice none 0 0) 0 [] rfl (World.ownsRow_nil _ _ _ _) rfl ?_)
    go_ret
    rw [HN.out]
    exact ⟨⟨none, 0, 0⟩, rfl, fun w' _ _ => rd_nil0 _ _ _ _ _, Below.refl _ _⟩
  | some ad =>
    have HC : Hid (∀ j u, (xs.flatMap (fun x : Int => [Value.int .i64 x]))[j]? = some u → w.cell? (ad.add j) = some u) := fun j u hj => h.flat (f := (fun x : Int => [Value.int .i64 x])) (fun _ => rfl) (by decide) ad rfl j u hj
    have m1 : Hid (0 + sn ≤ maxLen) := by show _ ≤ _; unfold maxLen; omega
    have m2 : Hid ((0 + sn) * 8 ≤ 140737488355328) := by show _ ≤ _; omega
    go_enter Tryz.func36, Tryz.ntmps36
    go_wp2_with (at_builtin; refine wpList_append_own _ rfl _ _ 25 rfl w.heap.size 3 i0 _ 1 8 Tryz.underlying25 HI.out HZ0.out HZ1.out HZ2.out rfl (by decide) (.slice none 0 0) 0 [] rfl (World.ownsRow_nil _ _ _ _) ad sn sc (xs.flatMap (fun x : Int => [Value.int .i64 x])) rfl L1.out HC.out L2.out m1.out m2.out (by simp) ?_; intro v' w1 hown hgrow hnil)
    go_wp2
    go_ret
    obtain ⟨s, rfl, hsn, hsb, hfr⟩ := own_fr (f := fun x : Int => [Value.int .i64 x]) (fun _ => rfl) HL.out (by rw [Nat.mul_one]; omega) (show w1.ownsRow w.heap.size 3 1 v' sn (xs.flatMap (fun x : Int => [Value.int .i64 x])) by simpa using hown)
    exact ⟨s, rfl, hfr, (Below.refl _ w).grown hgrow (by simp) (fun k hk => ((World.ownsRow_nil w w.heap.size 3 1).lt k hk).1)⟩
theorem to06_any (lo hi : Int) (w : World) :
    Calls Tryz.prog 112 #[.agg #[.int .i64 lo, .int .i64 hi]] w fun e w' => e = .returned (.agg #[.int .i64 lo, .int .i64 hi]) ∧ Below w.heap.size w w' := by
  have BX := Box.new (w.alloc (.cells #[.int .i64 lo, .int .i64 hi] 65)) #[.int .i64 lo, .int .i64 hi] 178
  rw [World.size_alloc] at BX
  have z0 := BX.cell 0 (.int .i64 lo) rfl
  have z1 := BX.cell 1 (.int .i64 hi) rfl
  clear BX
  go_enter Tryz.func112, Tryz.ntmps112
  go_wp2
  refine bodyPost_ret (v := .agg #[.int .i64 lo, .int .i64 hi]) (by simp [results, Tryz.results112, go_sem, z0, z1]) rfl ?_
  exact ⟨rfl, below_on (below_box _ _) (below_box _ _)⟩
theorem to10_any (lo hi : Int) (w : World) :
    Calls Tryz.prog 33 #[.agg #[.int .i64 lo, .int .i64 hi]] w fun e w' => e = .returned (.agg #[.int .i64 lo, .int .i64 hi]) ∧ Below w.heap.size w w' := by
  have BX := Box.new (w.alloc (.cells #[.int .i64 lo, .int .i64 hi] 65)) #[.int .i64 lo, .int .i64 hi] 63
  rw [World.size_alloc] at BX
  have z0 := BX.cell 0 (.int .i64 lo) rfl
  have z1 := BX.cell 1 (.int .i64 hi) rfl
  clear BX
  go_enter Tryz.func33, Tryz.ntmps33
  go_wp2
  refine bodyPost_ret (v := .agg #[.int .i64 lo, .int .i64 hi]) (by simp [results, Tryz.results33, go_sem, z0, z1]) rfl ?_
  exact ⟨rfl, below_on (below_box _ _) (below_box _ _)⟩
def LoftD.thin (l : LoftD) : Bool := decide (l.air.length ≤ 30) && decide (l.shelves.length ≤ 30) && decide (l.cakes.length ≤ 30) && decide (l.weights.length ≤ 30) && decide (l.put.length ≤ 30)
theorem Thin06_any (v : LoftV) (l : LoftD) (w : World) (h : RdLoft w v l) :
    Calls Tryz.prog 82 #[.agg v.cs] w fun e w' => e = .returned (.bool l.thin) ∧ Below w.heap.size w w' := by
  have H1 : Hid (l.air.length = v.air.n) := h.air.len
  have H2 : Hid (l.shelves.length = v.shelves.n) := h.shelves.len
  have H3 : Hid (l.cakes.length = v.cakes.n) := h.cakes.len
  have H4 : Hid (l.weights.length = v.weights.n) := h.weights.len
  have H5 : Hid (l.put.length = v.put.n) := h.put.len
  have hn := h.nle
  go_enter Tryz.func82, Tryz.ntmps82
  go_wp2
  all_goals go_ret
  all_goals exact ⟨ret_bool (by rw [LoftD.thin, H1.out, H2.out, H3.out, H4.out, H5.out]; first | grind | (simp; omega)), below_box _ _⟩
/-- The first sale whose day is after a day. -/
def afterS (ss : List SaleD) (day : Int) : Int := match ss.findIdx? (fun s => decide (day < s.day)) with | some k => k | none => -1
theorem after_any (v : MktV) (m : MktD) (day : Int) (w : World) (h : RdMkt w v m) :
    Calls Tryz.prog 53 #[.agg v.cs, .int .i64 day] w fun e w' => e = .returned (.int .i64 (afterS m.sales day)) ∧ Below w.heap.size w w' := by
  have HL : Hid (m.sales.length = v.sales.n) := h.sales.len
  have hn := h.nle.1
  obtain ⟨W0, hNW0, BX, hW0, hzW0⟩ := Box.named w (MktV.cs v) 33
  have q6 := BX.cell 6 (.slice v.sales.a v.sales.n v.sales.c) rfl
  go_enter Tryz.func53, Tryz.ntmps53
  go_wp2
  clear q6 hNW0
  go_loopw [5] (fun i wr => ∃ k : Nat, k ≤ v.sales.n ∧ i = .int .i64 k ∧ wr = W0 ∧ Hid (∀ j (x : SaleD), j < k → m.sales[j]? = some x → x.day ≤ day)) (fun i _ => v.sales.n - (intOf i).toNat)
  case atStart => exact ⟨0, Nat.zero_le _, rfl, rfl, fun j x hj _ => by omega⟩
  case round =>
    obtain ⟨k, hk, rfl, rfl, HB⟩ := hrel
    have q6 := BX.cell 6 (.slice v.sales.a v.sales.n v.sales.c) rfl
    by_cases hlt : k < v.sales.n
    · obtain ⟨x, hx⟩ := at_of_lt HL.out hlt
      obtain ⟨b, o, ha, hbl, hc0, _, _⟩ := h.sales.sale_at hx
      have hc0 := lift hW0 hc0
      have HX := Lib.hid hx
      rw [ha] at q6
      clear hx ha
      by_cases hd : day < x.day
      · go_wp2
        go_ret
        refine ⟨ret_int ?_, hW0⟩
        have hfi : m.sales.findIdx? (fun s => decide (day < s.day)) = some k := by
          rw [List.findIdx?_eq_some_iff_getElem]
          have hkl : k < m.sales.length := lt_of_at HX.out
          refine ⟨hkl, ?_, fun j hj => ?_⟩
          · have : m.sales[k] = x := by have := HX.out; rw [List.getElem?_eq_getElem hkl] at this; exact Option.some.inj this
            rw [this]; simpa using hd
          · have := HB.out j m.sales[j] hj (List.getElem?_eq_getElem (by omega))
            simp; omega
        rw [afterS, hfi]
      · go_wp2
        go_roundw
        case measure => simp [intOf]; omega
        case rel =>
          refine ⟨k + 1, by omega, by go_num, by trivial, fun j y hj hy => ?_⟩
          by_cases e : j = k
          · subst e
            have := HX.out
            rw [hy] at this
            cases this
            omega
          · exact HB.out j y (by omega) hy
    · obtain rfl : k = v.sales.n := by omega
      go_wp2
      go_ret
      refine ⟨ret_int ?_, hW0⟩
      have hfi : m.sales.findIdx? (fun s => decide (day < s.day)) = none := by
        rw [List.findIdx?_eq_none_iff]
        intro x hx
        obtain ⟨j, hj, rfl⟩ := List.getElem_of_mem hx
        have := HB.out j m.sales[j] (by have := HL.out; omega) (List.getElem?_eq_getElem hj)
        simp; omega
      rw [afterS, hfi]
def MktD.thin (m : MktD) : Bool := m.loft.thin && decide (m.sales.length ≤ 30) && decide (m.chests.length ≤ 30) && decide (m.notes.length ≤ 30) && m.chests.all (fun c => decide (c.cakes.length ≤ 30)) && (decide (mktFault m ≠ 0) || decide (capMul 3000 m.sizes ≤ 300))
theorem thin_size {l : LoftD} (h : l.thin = true) : l.air.length ≤ 30 ∧ l.shelves.length ≤ 30 ∧ l.cakes.length ≤ 30 ∧ l.weights.length ≤ 30 ∧ l.put.length ≤ 30 := by
  simp only [LoftD.thin, Bool.and_eq_true, decide_eq_true_eq] at h
  omega
set_option maxHeartbeats 4000000 in
theorem Thin10_any (v : MktV) (m : MktD) (w : World) (h : RdMkt w v m) :
    Calls Tryz.prog 23 #[.agg v.cs] w fun e w' => e = .returned (.bool m.thin) ∧ Below w.heap.size w w' := by
  have H1 : Hid (m.sales.length = v.sales.n) := h.sales.len
  have H2 : Hid (m.chests.length = v.chests.n) := h.chests.len
  have H3 : Hid (m.notes.length = v.notes.n) := h.notes.len
  have hn := h.nle
  obtain ⟨W0, hNW0, BX, hW0, hzW0⟩ := Box.named w (MktV.cs v) 33
  have q0 := BX.cell 0 (.int .i64 v.loft.last) rfl
  have q1 := BX.cell 1 (.slice v.loft.air.a v.loft.air.n v.loft.air.c) rfl
  have q2 := BX.cell 2 (.slice v.loft.shelves.a v.loft.shelves.n v.loft.shelves.c) rfl
  have q3 := BX.cell 3 (.slice v.loft.cakes.a v.loft.cakes.n v.loft.cakes.c) rfl
  have q4 := BX.cell 4 (.slice v.loft.put.a v.loft.put.n v.loft.put.c) rfl
  have q5 := BX.cell 5 (.slice v.loft.weights.a v.loft.weights.n v.loft.weights.c) rfl
  have q6 := BX.cell 6 (.slice v.sales.a v.sales.n v.sales.c) rfl
  have q7 := BX.cell 7 (.slice v.chests.a v.chests.n v.chests.c) rfl
  have q8 := BX.cell 8 (.int .i64 v.step) rfl
  have q9 := BX.cell 9 (.int .i64 v.lots) rfl
  have q10 := BX.cell 10 (.slice v.notes.a v.notes.n v.notes.c) rfl
  cases ht : m.loft.thin
  · have HT := Lib.hid ht
    go_enter Tryz.func23, Tryz.ntmps23
    go_wp2_with (go_at_call 82; refine (call_b (Thin06_any v.loft m.loft _ (h.below hW0).loft) ht).mono ?_; rintro e w1 ⟨rfl, hb1⟩)
    go_ret
    exact ⟨ret_bool (by rw [MktD.thin, HT.out]; rfl), below_on hW0 hb1⟩
  have HT := Lib.hid ht
  by_cases hs : v.sales.n ≤ 30
  rotate_left
  · go_enter Tryz.func23, Tryz.ntmps23
    go_wp2_with (go_at_call 82; refine (call_b (Thin06_any v.loft m.loft _ (h.below hW0).loft) ht).mono ?_; rintro e w1 ⟨rfl, hb1⟩; have q6 := lift hb1 q6)
    go_ret
    exact ⟨ret_bool (by rw [MktD.thin, H1.out]; simp [hs]), below_on hW0 hb1⟩
  by_cases hc : v.chests.n ≤ 30
  rotate_left
  · go_enter Tryz.func23, Tryz.ntmps23
    go_wp2_with (go_at_call 82; refine (call_b (Thin06_any v.loft m.loft _ (h.below hW0).loft) ht).mono ?_; rintro e w1 ⟨rfl, hb1⟩; have q6 := lift hb1 q6; have q7 := lift hb1 q7)
    go_ret
    exact ⟨ret_bool (by rw [MktD.thin, H2.out]; simp [hc]), below_on hW0 hb1⟩
  by_cases ho : v.notes.n ≤ 30
  rotate_left
  · go_enter Tryz.func23, Tryz.ntmps23
    go_wp2_with (go_at_call 82; refine (call_b (Thin06_any v.loft m.loft _ (h.below hW0).loft) ht).mono ?_; rintro e w1 ⟨rfl, hb1⟩; have q6 := lift hb1 q6; have q7 := lift hb1 q7; have q10 := lift hb1 q10)
    go_ret
    exact ⟨ret_bool (by rw [MktD.thin, H3.out]; simp [ho]), below_on hW0 hb1⟩
  have HE : Hid (m.thin = (m.chests.all (fun c => decide (c.cakes.length ≤ 30)) && (decide (mktFault m ≠ 0) || decide (capMul 3000 m.sizes ≤ 300)))) := by
    show _ = _
    rw [MktD.thin, HT.out, H1.out, H2.out, H3.out]
    simp [hs, hc, ho]
  go_enter Tryz.func23, Tryz.ntmps23
  go_wp2_with (go_at_call 82; refine (call_b (Thin06_any v.loft m.loft _ (h.below hW0).loft) ht).mono ?_; rintro e w1 ⟨rfl, hb1⟩; have q6 := lift hb1 q6; have q7 := lift hb1 q7; have q10 := lift hb1 q10)
  clear q0 q1 q2 q3 q4 q5 q6 q7 q8 q9 q10 hNW0
  go_loopw [3] (fun i wr => ∃ k : Nat, k ≤ v.chests.n ∧ i = .int .i64 k ∧ Hid (∀ j (x : ChestD), j < k → m.chests[j]? = some x → x.cakes.length ≤ 30) ∧ Below W0.heap.size W0 wr) (fun i _ => v.chests.n - (intOf i).toNat)
  case atStart => exact ⟨0, Nat.zero_le _, rfl, fun j x hj _ => by omega, hb1⟩
  case round =>
    clear hb1
    obtain ⟨k, hk, rfl, HB, hb⟩ := hrel
    have hw := below_on hW0 hb
    have q0 := (BX.lift hb).cell 0 (.int .i64 v.loft.last) rfl
    have q1 := (BX.lift hb).cell 1 (.slice v.loft.air.a v.loft.air.n v.loft.air.c) rfl
    have q2 := (BX.lift hb).cell 2 (.slice v.loft.shelves.a v.loft.shelves.n v.loft.shelves.c) rfl
    have q3 := (BX.lift hb).cell 3 (.slice v.loft.cakes.a v.loft.cakes.n v.loft.cakes.c) rfl
    have q4 := (BX.lift hb).cell 4 (.slice v.loft.put.a v.loft.put.n v.loft.put.c) rfl
    have q5 := (BX.lift hb).cell 5 (.slice v.loft.weights.a v.loft.weights.n v.loft.weights.c) rfl
    have q6 := (BX.lift hb).cell 6 (.slice v.sales.a v.sales.n v.sales.c) rfl
    have q7 := (BX.lift hb).cell 7 (.slice v.chests.a v.chests.n v.chests.c) rfl
    have q8 := (BX.lift hb).cell 8 (.int .i64 v.step) rfl
    have q9 := (BX.lift hb).cell 9 (.int .i64 v.lots) rfl
    have q10 := (BX.lift hb).cell 10 (.slice v.notes.a v.notes.n v.notes.c) rfl
    by_cases hlt : k < v.chests.n
    · obtain ⟨x, hx⟩ := at_of_lt H2.out hlt
      obtain ⟨b, o, ⟨ta, tn, tc⟩, ha, hbl, hc0, _, hrd⟩ := (h.below hw).chests.chest_at hx
      simp only at hc0
      have HLx : Hid (x.cakes.length = tn) := hrd.len
      have HX := Lib.hid hx
      rw [ha] at q7
      clear hx ha
      by_cases hd : tn ≤ 30
      · go_wp2
        go_roundw
        case measure => simp [intOf]; omega
        case rel =>
          refine ⟨k + 1, by omega, by go_num, fun j y hj hy => ?_, hb⟩
          by_cases e : j = k
          · subst e
            have := HX.out
            rw [hy] at this
            cases this
            have := HLx.out
            omega
          · exact HB.out j y (by omega) hy
      · go_wp2
        go_ret
        refine ⟨ret_bool ?_, hw⟩
        rw [HE.out]
        have : m.chests.all (fun c => decide (c.cakes.length ≤ 30)) = false := by
          rw [List.all_eq_false]
          exact ⟨x, List.mem_of_getElem? HX.out, by have := HLx.out; simp; omega⟩
        rw [this]; rfl
    · obtain rfl : k = v.chests.n := by omega
      have HA : Hid (m.thin = (decide (mktFault m ≠ 0) || decide (capMul 3000 m.sizes ≤ 300))) := by
        show _ = _
        rw [HE.out]
        have : m.chests.all (fun c => decide (c.cakes.length ≤ 30)) = true := by
          rw [List.all_eq_true]
          intro x hx
          obtain ⟨j, hj, rfl⟩ := List.getElem_of_mem hx
          have := HB.out j m.chests[j] (by have := H2.out; omega) (List.getElem?_eq_getElem hj)
          simpa using this
        rw [this]; rfl
      by_cases hf : mktFault m = 0
      · have hok := (MOk.of hf)
        have HF := Lib.hid hf
        go_wp2_with (first | (go_at_call 49; refine (call_val (Fault10_any v m _ (h.below hw)) (u := .int .i64 0) (by rw [hf])).mono ?_; rintro e w2 ⟨rfl, hb2⟩; have q0 := ((BX.lift hb).lift hb2).cell 0 (.int .i64 v.loft.last) rfl; have q1 := ((BX.lift hb).lift hb2).cell 1 (.slice v.loft.air.a v.loft.air.n v.loft.air.c) rfl; have q2 := ((BX.lift hb).lift hb2).cell 2 (.slice v.loft.shelves.a v.loft.shelves.n v.loft.shelves.c) rfl; have q3 := ((BX.lift hb).lift hb2).cell 3 (.slice v.loft.cakes.a v.loft.cakes.n v.loft.cakes.c) rfl; have q4 := ((BX.lift hb).lift hb2).cell 4 (.slice v.loft.put.a v.loft.put.n v.loft.put.c) rfl; have q5 := ((BX.lift hb).lift hb2).cell 5 (.slice v.loft.weights.a v.loft.weights.n v.loft.weights.c) rfl; have q6 := ((BX.lift hb).lift hb2).cell 6 (.slice v.sales.a v.sales.n v.sales.c) rfl; have q7 := ((BX.lift hb).lift hb2).cell 7 (.slice v.chests.a v.chests.n v.chests.c) rfl; have q8 := ((BX.lift hb).lift hb2).cell 8 (.int .i64 v.step) rfl; have q9 := ((BX.lift hb).lift hb2).cell 9 (.int .i64 v.lots) rfl; have q10 := ((BX.lift hb).lift hb2).cell 10 (.slice v.notes.a v.notes.n v.notes.c) rfl) | (go_at_call 83; refine (Many10_any v m _ (h.below (below_on hw hb2)) hok.prices).mono ?_; rintro e w3 ⟨rfl, hb3⟩))
        go_ret
        exact ⟨ret_bool (by rw [HA.out, HF.out]; simp), below_on (below_on hw hb2) hb3⟩
      · have HF := Lib.hid hf
        have hf1 : Tryz.prog = Tryz.prog := rfl
        obtain ⟨f, hff⟩ : ∃ f, mktFault m = f := ⟨_, rfl⟩
        rw [hff] at hf
        go_wp2_with (go_at_call 49; refine (call_val (Fault10_any v m _ (h.below hw)) (u := .int .i64 f) (by rw [hff])).mono ?_; rintro e w2 ⟨rfl, hb2⟩)
        go_ret
        exact ⟨ret_bool (by rw [HA.out]; simp [HF.out]), below_on hw hb2⟩
end Go.Proofs.YtenfnakhijobkaaGreat
