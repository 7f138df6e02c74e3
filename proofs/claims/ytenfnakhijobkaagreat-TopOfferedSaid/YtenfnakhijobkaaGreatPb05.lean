/- The reference's errors of lofts. Conditions: the loft reads as it does. The program's tests of all elements of a list, in layer 6. Conditions: the lists read as they do. The program's errors of lofts. Conditions: the loft reads as it does. -/
import Derived.Test.YtenfnakhijobkaaGreatPb02
import Derived.Test.YtenfnakhijobkaaGreatPb03
set_option linter.unusedVariables false
set_option linter.unusedSimpArgs false
namespace Go.Proofs.YtenfnakhijobkaaGreat
open Go.RowKit

theorem lf_a {l : LoftD} (h : l.last > 5 ∨ l.shelves.length > 3 ∨ l.cakes.length > 5 ∨ l.weights.length > 5) : 3 = loftFault l := by
  unfold loftFault; rw [if_pos h]
def LfA (l : LoftD) : Prop := ¬ (l.last > 5 ∨ l.shelves.length > 3 ∨ l.cakes.length > 5 ∨ l.weights.length > 5)
def LfB (l : LoftD) : Prop := ¬ (l.last < 0 ∨ (l.air.length : Int) ≠ l.last + 1)
theorem lf_b {l : LoftD} (ha : LfA l) (h : l.last < 0 ∨ (l.air.length : Int) ≠ l.last + 1) : 1 = loftFault l := by
  unfold loftFault; rw [if_neg ha, if_pos h]
theorem lf_c {l : LoftD} (ha : LfA l) (hb : LfB l) (h : l.air.all (·.upTo 9) = false) : 1 = loftFault l := by
  unfold loftFault; rw [if_neg ha, if_neg hb, if_pos h]
theorem lf_d {l : LoftD} (ha : LfA l) (hb : LfB l) (hc : l.air.all (·.upTo 9) = true) (h : l.shelves.all (·.ok) = false) : 1 = loftFault l := by
  unfold loftFault; rw [if_neg ha, if_neg hb, if_neg (by simp [hc]), if_pos h]
theorem lf_e {l : LoftD} (ha : LfA l) (hb : LfB l) (hc : l.air.all (·.upTo 9) = true) (hd : l.shelves.all (·.ok) = true) (h : l.cakes.all l.cakeOk = false) : 1 = loftFault l := by
  unfold loftFault; rw [if_neg ha, if_neg hb, if_neg (by simp [hc]), if_neg (by simp [hd]), if_pos h]
theorem lf_f {l : LoftD} (ha : LfA l) (hb : LfB l) (hc : l.air.all (·.upTo 9) = true) (hd : l.shelves.all (·.ok) = true) (he : l.cakes.all l.cakeOk = true) (h : isPlace l l.put = false) : 1 = loftFault l := by
  unfold loftFault; rw [if_neg ha, if_neg hb, if_neg (by simp [hc]), if_neg (by simp [hd]), if_neg (by simp [he]), if_pos h]
theorem lf_g {l : LoftD} (ha : LfA l) (hb : LfB l) (hc : l.air.all (·.upTo 9) = true) (hd : l.shelves.all (·.ok) = true) (he : l.cakes.all l.cakeOk = true) (hf : isPlace l l.put = true) (h : l.weights.all l.weightOk = false) : 1 = loftFault l := by
  unfold loftFault; rw [if_neg ha, if_neg hb, if_neg (by simp [hc]), if_neg (by simp [hd]), if_neg (by simp [he]), if_neg (by simp [hf]), if_pos h]
theorem lf_h {l : LoftD} (ha : LfA l) (hb : LfB l) (hc : l.air.all (·.upTo 9) = true) (hd : l.shelves.all (·.ok) = true) (he : l.cakes.all l.cakeOk = true) (hf : isPlace l l.put = true) (hg : l.weights.all l.weightOk = true) :
    loftFault l = if capMul 3000 l.sizes > 2000 then 3 else 0 := by
  unfold loftFault; rw [if_neg ha, if_neg hb, if_neg (by simp [hc]), if_neg (by simp [hd]), if_neg (by simp [he]), if_neg (by simp [hf]), if_neg (by simp [hg])]

theorem airOk {l : LoftD} (hc : l.air.all (·.upTo 9) = true) : ∀ r ∈ l.air, RgOk r := fun r hr => by
  have := Rg.upTo_iff.1 (List.all_eq_true.1 hc r hr)
  unfold RgOk; omega
theorem cakesOk {l : LoftD} (he : l.cakes.all l.cakeOk = true) : ∀ c ∈ l.cakes, RgOk c.water := fun c hc => by
  have := List.all_eq_true.1 he c hc
  simp only [LoftD.cakeOk, Bool.and_eq_true] at this
  have := Rg.upTo_iff.1 this.1.2
  unfold RgOk; omega

set_option maxHeartbeats 4000000 in
set_option maxRecDepth 100000 in
theorem Fault06_any (v : LoftV) (l : LoftD) (w : World) (h : RdLoft w v l) :
    Calls Tryz.prog 106 #[.agg v.cs] w fun e w' => e = .returned (.int .i64 (loftFault l)) ∧ Below w.heap.size w w' := by
  obtain ⟨vl, ⟨aa, an, ac⟩, ⟨ba, bn, bc⟩, ⟨ca, cn, cc⟩, ⟨pa, pn, pc⟩, ⟨wa, wn, wc⟩⟩ := v
  have hn := h.nle
  simp only at hn
  obtain ⟨hn1, hn2, hn3, hn4, hn5⟩ := hn
  have hvl : vl = l.last := h.last
  subst hvl
  have HLa : Hid (l.air.length = an) := h.air.len
  have HLb : Hid (l.shelves.length = bn) := h.shelves.len
  have HLc : Hid (l.cakes.length = cn) := h.cakes.len
  have HLw : Hid (l.weights.length = wn) := h.weights.len
  by_cases hA : l.last > 5 ∨ bn > 3 ∨ cn > 5 ∨ wn > 5
  · have hA' : l.last > 5 ∨ l.shelves.length > 3 ∨ l.cakes.length > 5 ∨ l.weights.length > 5 := by rw [HLb.out, HLc.out, HLw.out]; exact hA
    have HA := Lib.hid hA'
    clear hA hA'
    go_enter Tryz.func106, Tryz.ntmps106
    go_wp2
    all_goals try (go_ret; exact ⟨ret_int (lf_a HA.out), below_box _ _⟩)
    all_goals (exfalso; have := HA.out; have := HLb.out; have := HLc.out; have := HLw.out; omega)
  have HA : Hid (LfA l) := by show LfA l; unfold LfA; rw [HLb.out, HLc.out, HLw.out]; exact hA
  have hA1 : l.last ≤ 5 := by omega
  have hA2 : bn ≤ 3 := by omega
  have hA3 : cn ≤ 5 := by omega
  have hA4 : wn ≤ 5 := by omega
  clear hA
  by_cases hB : l.last < 0 ∨ (an : Int) ≠ l.last + 1
  · have hB' : l.last < 0 ∨ (l.air.length : Int) ≠ l.last + 1 := by rw [HLa.out]; exact hB
    have HB := Lib.hid hB'
    clear hB'
    by_cases h0 : l.last < 0
    · clear hB
      go_enter Tryz.func106, Tryz.ntmps106
      go_wp2
      go_ret
      exact ⟨ret_int (lf_b HA.out HB.out), below_box _ _⟩
    · have hne : ((an : Int) != l.last + 1) = true := bne_iff_ne.2 (hB.resolve_left h0)
      clear hB
      go_enter Tryz.func106, Tryz.ntmps106
      go_wp2
      go_ret
      exact ⟨ret_int (lf_b HA.out HB.out), below_box _ _⟩
  have HB : Hid (LfB l) := by show LfB l; unfold LfB; rw [HLa.out]; exact hB
  have hBe : (an : Int) = l.last + 1 := Decidable.not_not.1 (not_or.1 hB).2
  have hB1 : 0 ≤ l.last := by omega
  have hB2 : ((an : Int) != l.last + 1) = false := by rw [hBe]; simp
  have hB3 : an ≤ 6 := by omega
  have HB4 := Lib.hid hBe
  clear hB hBe
  go_enter Tryz.func106, Tryz.ntmps106
  go_wp2
  obtain ⟨W0, hNW0, BX, hW0, hzW0⟩ := Box.named w (LoftV.cs ⟨l.last, ⟨aa, an, ac⟩, ⟨ba, bn, bc⟩, ⟨ca, cn, cc⟩, ⟨pa, pn, pc⟩, ⟨wa, wn, wc⟩⟩) 28
  rw [hNW0]
  clear hNW0
  go_loopw [3] (fun i wr => ∃ k : Nat, k ≤ an ∧ i = .int .i64 k ∧ Hid ((l.air.take k).all (·.upTo 9) = true) ∧ Below W0.heap.size W0 wr) (fun i _ => an - (intOf i).toNat)
  case atStart => exact ⟨0, Nat.zero_le _, rfl, by simp [Hid], Below.refl _ _⟩
  case round =>
    obtain ⟨k, hk, rfl, hq, hb⟩ := hrel
    have hw := below_on hW0 hb
    have c1 := (BX.lift hb).cell 1 (.slice aa an ac) rfl
    by_cases hlt : k < an
    · obtain ⟨x, hx⟩ := at_of_lt HLa.out hlt
      obtain ⟨b, o, ha, hbl, hc1, hc2⟩ := h.air.rg_at hx
      have hc1 := lift hw hc1
      have hc2 := lift hw hc2
      have HX := Lib.hid hx
      simp only at ha
      subst ha
      clear hx
      go_wp2_with (go_at_call 107; refine (Inside_any _ _ _ _).mono ?_; rintro e w1 ⟨rfl, hb1⟩)
      · have hp : x.upTo 9 = false := by
          have : (!x.upTo 9) = true := by assumption
          simpa using this
        go_ret
        exact ⟨ret_int (lf_c HA.out HB.out (all_of_at _ HX.out hp)), hw.trans (hb1.mono hw.size)⟩
      · have hp : x.upTo 9 = true := by
          have : (!x.upTo 9) = false := by assumption
          simpa using this
        go_roundw
        case rel => exact ⟨k + 1, by omega, by go_num, by
          have h1 : (l.air.take k).all (·.upTo 9) = true := hq
          show (l.air.take (k + 1)).all (·.upTo 9) = true
          rw [take_all _ HX.out, h1, hp]; rfl, hb.trans (hb1.mono hb.size)⟩
        case measure => simp [intOf]; omega
    · obtain rfl : an = k := by omega
      have HC : Hid (l.air.all (·.upTo 9) = true) := by
        have h1 : (l.air.take an).all (·.upTo 9) = true := hq
        rwa [take_len HLa.out] at h1
      clear hq
      go_wp2
      go_loopw [4] (fun i wr => ∃ k : Nat, k ≤ bn ∧ i = .int .i64 k ∧ Hid ((l.shelves.take k).all (·.ok) = true) ∧ Below W0.heap.size W0 wr) (fun i _ => bn - (intOf i).toNat)
      case atStart => exact ⟨0, Nat.zero_le _, rfl, by simp [Hid], hb⟩
      case round =>
        clear c1 hw hb
        obtain ⟨k, hk, rfl, hq, hb⟩ := hrel
        have hw := below_on hW0 hb
        have c1 := (BX.lift hb).cell 2 (.slice ba bn bc) rfl
        by_cases hlt : k < bn
        · obtain ⟨x, hx⟩ := at_of_lt HLb.out hlt
          obtain ⟨b, o, ha, hbl, hc1, hc2⟩ := h.shelves.board_at hx
          have hc1 := lift hw hc1
          have hc2 := lift hw hc2
          have HX := Lib.hid hx
          simp only at ha
          subst ha
          clear hx
          have hbx := below_box wr (.cells #[.int .i64 x.room, .int .i64 x.draft] 181)
          by_cases hok : x.ok = true
          · have hok' := hok
            simp only [BoardD.ok, Bool.and_eq_true] at hok'
            obtain ⟨ho1, ho2⟩ := hok'
            have HOK := Lib.hid hok
            clear hok
            go_wp2_with (go_at_call 64; refine (In_any _ _ _ _).mono ?_; rintro e w1 ⟨rfl, rfl⟩)
            go_roundw
            case rel => exact ⟨k + 1, by omega, by go_num, by
              have h1 : (l.shelves.take k).all (·.ok) = true := hq
              show (l.shelves.take (k + 1)).all (·.ok) = true
              rw [take_all _ HX.out, h1, HOK.out]; rfl, hb.trans (hbx.mono hb.size)⟩
            case measure => simp [intOf]; omega
          · have hno : x.ok = false := by simpa using hok
            have HNO := Lib.hid hno
            have hno' : (inB x.room 0 5 && inB x.draft 0 4) = false := hno
            have HN2 := Lib.hid hno'
            clear hok hno hno'
            go_wp2_with (go_at_call 64; refine (In_any _ _ _ _).mono ?_; rintro e w1 ⟨rfl, rfl⟩)
            · go_ret
              exact ⟨ret_int (lf_d HA.out HB.out HC.out (all_of_at _ HX.out HNO.out)), hw.trans (hbx.mono hw.size)⟩
            · exfalso
              have h1 : inB x.room 0 5 = true := by assumption
              have h2 : (!inB x.draft 0 4) = false := by assumption
              have h3 := HN2.out
              rw [h1] at h3
              simp at h2 h3
              rw [h2] at h3
              cases h3
            · go_ret
              exact ⟨ret_int (lf_d HA.out HB.out HC.out (all_of_at _ HX.out HNO.out)), hw.trans (hbx.mono hw.size)⟩
        · obtain rfl : bn = k := by omega
          have HD : Hid (l.shelves.all (·.ok) = true) := by
            have h1 : (l.shelves.take bn).all (·.ok) = true := hq
            rwa [take_len HLb.out] at h1
          clear hq
          go_wp2
          go_loopw [6] (fun i wr => ∃ k : Nat, k ≤ cn ∧ i = .int .i64 k ∧ Hid ((l.cakes.take k).all l.cakeOk = true) ∧ Below W0.heap.size W0 wr) (fun i _ => cn - (intOf i).toNat)
          case atStart => exact ⟨0, Nat.zero_le _, rfl, by simp [Hid], hb⟩
          case round =>
            clear c1 hw hb
            obtain ⟨k, hk, rfl, hq, hb⟩ := hrel
            have hw := below_on hW0 hb
            have c1 := (BX.lift hb).cell 3 (.slice ca cn cc) rfl
            have c0 := (BX.lift hb).cell 0 (.int .i64 l.last) rfl
            by_cases hlt : k < cn
            · obtain ⟨x, hx⟩ := at_of_lt HLc.out hlt
              obtain ⟨b, o, ha, hbl, hc1, hc2, hc3, hc4⟩ := h.cakes.cake_at hx
              have hc1 := lift hw hc1
              have hc2 := lift hw hc2
              have hc3 := lift hw hc3
              have hc4 := lift hw hc4
              have HX := Lib.hid hx
              simp only at ha
              subst ha
              clear hx
              have hbx := below_box wr (.cells #[.int .i64 x.come, .int .i64 x.water.lo, .int .i64 x.water.hi, .int .i64 x.keep] 184)
              have c0' : (wr.alloc (.cells #[.int .i64 x.come, .int .i64 x.water.lo, .int .i64 x.water.hi, .int .i64 x.keep] 184)).cell? ⟨w.heap.size, 0, none⟩ = some (.int .i64 l.last) := lift hbx c0
              have BAD : Hid (∀ w2 : World, Below wr.heap.size wr w2 → l.cakeOk x = false → Ending.returned (.int .i64 1) = .returned (.int .i64 (loftFault l)) ∧ Below w.heap.size w w2) :=
                fun w2 hb2 hno => ⟨ret_int (lf_e HA.out HB.out HC.out HD.out (all_of_at _ HX.out hno)), hw.trans (hb2.mono hw.size)⟩
              by_cases h1 : inB x.come 0 l.last = true
              · by_cases h2 : x.water.upTo 40 = true
                · by_cases h3 : inB x.keep 1 6 = true
                  · have HOK : Hid (l.cakeOk x = true) := by show _ = true; simp [LoftD.cakeOk, h1, h2, h3]
                    go_wp2_with (first | (go_at_call 64; refine (In_any _ _ _ _).mono ?_; rintro e w1 ⟨rfl, rfl⟩) | (go_at_call 107; refine (Inside_any _ _ _ _).mono ?_; rintro e w1 ⟨rfl, hb1⟩; obtain ⟨hbc1, hbf1⟩ := bcell hb1))
                    go_roundw
                    case rel => exact ⟨k + 1, by omega, by go_num, by
                      have h1 : (l.cakes.take k).all l.cakeOk = true := hq
                      show (l.cakes.take (k + 1)).all l.cakeOk = true
                      rw [take_all _ HX.out, h1, HOK.out]; rfl, hb.trans ((hbx.trans (hb1.mono hbx.size)).mono hb.size)⟩
                    case measure => simp [intOf]; omega
                  · have h3' : inB x.keep 1 6 = false := by simpa using h3
                    have HNO : Hid (l.cakeOk x = false) := by show _ = false; simp [LoftD.cakeOk, h3']
                    clear h3
                    go_wp2_with (first | (go_at_call 64; refine (In_any _ _ _ _).mono ?_; rintro e w1 ⟨rfl, rfl⟩) | (go_at_call 107; refine (Inside_any _ _ _ _).mono ?_; rintro e w1 ⟨rfl, hb1⟩; obtain ⟨hbc1, hbf1⟩ := bcell hb1))
                    go_ret
                    exact BAD.out _ (hbx.trans (hb1.mono hbx.size)) HNO.out
                · have h2' : x.water.upTo 40 = false := by simpa using h2
                  have HNO : Hid (l.cakeOk x = false) := by show _ = false; simp [LoftD.cakeOk, h2']
                  clear h2
                  go_wp2_with (first | (go_at_call 64; refine (In_any _ _ _ _).mono ?_; rintro e w1 ⟨rfl, rfl⟩) | (go_at_call 107; refine (Inside_any _ _ _ _).mono ?_; rintro e w1 ⟨rfl, hb1⟩; obtain ⟨hbc1, hbf1⟩ := bcell hb1))
                  go_ret
                  exact BAD.out _ (hbx.trans (hb1.mono hbx.size)) HNO.out
              · have h1' : inB x.come 0 l.last = false := by simpa using h1
                have HNO : Hid (l.cakeOk x = false) := by show _ = false; simp [LoftD.cakeOk, h1']
                clear h1
                go_wp2_with (first | (go_at_call 64; refine (In_any _ _ _ _).mono ?_; rintro e w1 ⟨rfl, rfl⟩) | (go_at_call 107; refine (Inside_any _ _ _ _).mono ?_; rintro e w1 ⟨rfl, hb1⟩; obtain ⟨hbc1, hbf1⟩ := bcell hb1))
                go_ret
                exact BAD.out _ hbx HNO.out
            · obtain rfl : cn = k := by omega
              have HE : Hid (l.cakes.all l.cakeOk = true) := by
                have h1 : (l.cakes.take cn).all l.cakeOk = true := hq
                rwa [take_len HLc.out] at h1
              clear hq
              have b1 := (BX.lift hb).cell 1 (.slice aa an ac) rfl
              have b2 := (BX.lift hb).cell 2 (.slice ba bn bc) rfl
              have b4 := (BX.lift hb).cell 4 (.slice pa pn pc) rfl
              have b5 := (BX.lift hb).cell 5 (.slice wa wn wc) rfl
              by_cases hpl : isPlace l l.put = true
              case neg =>
                have hp : isPlace l l.put = false := by simpa using hpl
                clear hpl
                have HP := Lib.hid hp
                clear hp
                go_wp2_with (go_at_call 146; refine (call_b (IsPlace_any ⟨l.last, ⟨aa, an, ac⟩, ⟨ba, bn, bc⟩, ⟨ca, cn, cc⟩, ⟨pa, pn, pc⟩, ⟨wa, wn, wc⟩⟩ l ⟨pa, pn, pc⟩ l.put _ (h.below hw) (h.put.below (encR_mono _) hw)) HP.out).mono ?_; rintro e w1 ⟨rfl, hb1⟩)
                go_ret
                exact ⟨ret_int (lf_f HA.out HB.out HC.out HD.out HE.out HP.out), hw.trans (hb1.mono hw.size)⟩
              have HF := Lib.hid hpl
              clear hpl
              go_wp2_with (go_at_call 146; refine (call_b (IsPlace_any ⟨l.last, ⟨aa, an, ac⟩, ⟨ba, bn, bc⟩, ⟨ca, cn, cc⟩, ⟨pa, pn, pc⟩, ⟨wa, wn, wc⟩⟩ l ⟨pa, pn, pc⟩ l.put _ (h.below hw) (h.put.below (encR_mono _) hw)) HF.out).mono ?_; rintro e w1 ⟨rfl, hb1⟩)
              go_loopw [8] (fun i wr => ∃ k : Nat, k ≤ wn ∧ i = .int .i64 k ∧ Hid ((l.weights.take k).all l.weightOk = true) ∧ Below W0.heap.size W0 wr) (fun i _ => wn - (intOf i).toNat)
              case atStart => exact ⟨0, Nat.zero_le _, rfl, by simp [Hid], hb.trans (hb1.mono hb.size)⟩
              case round =>
                clear c1 c0 hw hb1 b1 b2 b4 b5
                have hbo := hb
                clear hb
                obtain ⟨k, hk, rfl, hq, hb⟩ := hrel
                clear hbo
                have hw := below_on hW0 hb
                have c5 := (BX.lift hb).cell 5 (.slice wa wn wc) rfl
                by_cases hlt : k < wn
                · obtain ⟨⟨xc, xd, xw⟩, hx⟩ := at_of_lt HLw.out hlt
                  obtain ⟨b, o, ha, hbl, hc1, hc2, hc3, hc4⟩ := h.weights.weight_at hx
                  have hc1 := lift hw hc1
                  have hc2 := lift hw hc2
                  have hc3 := lift hw hc3
                  have hc4 := lift hw hc4
                  have HX := Lib.hid hx
                  simp only at ha hc1 hc2 hc3 hc4
                  subst ha
                  clear hx
                  have BAD : Hid (∀ w2 : World, Below wr.heap.size wr w2 → l.weightOk ⟨xc, xd, xw⟩ = false → Ending.returned (.int .i64 1) = .returned (.int .i64 (loftFault l)) ∧ Below w.heap.size w w2) :=
                    fun w2 hb2 hno => ⟨ret_int (lf_g HA.out HB.out HC.out HD.out HE.out HF.out (all_of_at _ HX.out hno)), hw.trans (hb2.mono hw.size)⟩
                  by_cases h1 : inB xc 0 (↑cn - 1) = true
                  · have h1i := inB_iff.1 h1
                    obtain ⟨xn, rfl⟩ := Int.eq_ofNat_of_zero_le h1i.1
                    have hxlt : xn < cn := by omega
                    obtain ⟨y, hy⟩ := at_of_lt HLc.out hxlt
                    obtain ⟨b2, o2, ha2, hbl2, hy1, _⟩ := h.cakes.cake_at hy
                    simp only at ha2
                    subst ha2
                    have HY : Hid (∀ (d : Int) (r : Rg), l.weightOk ⟨xn, d, r⟩ = (inB d y.come l.last && r.upTo 40)) := fun d r => by
                      simp only [LoftD.weightOk, LoftD.is, LoftD.come, gI_nat, hy, HLc.out, h1, Bool.true_and]
                    clear hy h1i
                    by_cases h2 : inB xd y.come l.last = true
                    · by_cases h3 : xw.upTo 40 = true
                      · have HOK : Hid (l.weightOk ⟨xn, xd, xw⟩ = true) := by show _ = true; rw [HY.out, h2, h3]; rfl
                        go_wp2
                        obtain ⟨W2, hNW2, BX2, hW2, hzW2⟩ := Box.named wr #[.int .i64 (xn : Int), .int .i64 xd, .int .i64 xw.lo, .int .i64 xw.hi] 114
                        rw [hNW2]
                        clear hNW2
                        have e0 := BX2.cell 0 (.int .i64 xn) rfl
                        have e1 := BX2.cell 1 (.int .i64 xd) rfl
                        have e2 := BX2.cell 2 (.int .i64 xw.lo) rfl
                        have e3 := BX2.cell 3 (.int .i64 xw.hi) rfl
                        have f3 := ((BX.lift hb).lift hW2).cell 3 (.slice (some ⟨b2, o2, none⟩) cn cc) rfl
                        have f0 := ((BX.lift hb).lift hW2).cell 0 (.int .i64 l.last) rfl
                        have f1 := lift (hw.trans (hW2.mono hw.size)) hy1
                        have zz0 := fun x : After W2 => At.cell e0 x
                        have zz1 := fun x : After W2 => At.cell e1 x
                        have zz2 := fun x : After W2 => At.cell e2 x
                        have zz3 := fun x : After W2 => At.cell e3 x
                        have zz4 := fun x : After W2 => At.cell f3 x
                        have zz5 := fun x : After W2 => At.cell f0 x
                        have zz6 := fun x : After W2 => At.cell f1 x
                        refine wp_region_after (by kernel_rfl) (by kernel_rfl) ?_
                        repeat (go_big_quiet_step ((first | (go_at_call 64; first | exact after_same (call_b (In_any _ _ _ _) h1) | exact after_same (call_b (In_any _ _ _ _) h2)) | (go_at_call 107; exact after_call (call_b (Inside_any _ _ _ _) h3)))))
                        refine wpQuiet_nil ?_
                        intro W3 hbW3
                        clear zz0 zz1 zz2 zz3 zz4 zz5 zz6
                        go_wp2
                        go_roundw
                        case rel => exact ⟨k + 1, by omega, by go_num, by
                          have h1 : (l.weights.take k).all l.weightOk = true := hq
                          show (l.weights.take (k + 1)).all l.weightOk = true
                          rw [take_all _ HX.out, h1, HOK.out]; rfl, hb.trans ((hW2.trans (hbW3.mono hW2.size)).mono hb.size)⟩
                        case measure => simp [intOf]; omega
                      · have h3' : xw.upTo 40 = false := by simpa using h3
                        have HNO : Hid (l.weightOk ⟨xn, xd, xw⟩ = false) := by show _ = false; rw [HY.out, h3']; simp
                        clear h3
                        go_wp2
                        obtain ⟨W2, hNW2, BX2, hW2, hzW2⟩ := Box.named wr #[.int .i64 (xn : Int), .int .i64 xd, .int .i64 xw.lo, .int .i64 xw.hi] 114
                        rw [hNW2]
                        clear hNW2
                        have e0 := BX2.cell 0 (.int .i64 xn) rfl
                        have e1 := BX2.cell 1 (.int .i64 xd) rfl
                        have e2 := BX2.cell 2 (.int .i64 xw.lo) rfl
                        have e3 := BX2.cell 3 (.int .i64 xw.hi) rfl
                        have f3 := ((BX.lift hb).lift hW2).cell 3 (.slice (some ⟨b2, o2, none⟩) cn cc) rfl
                        have f0 := ((BX.lift hb).lift hW2).cell 0 (.int .i64 l.last) rfl
                        have f1 := lift (hw.trans (hW2.mono hw.size)) hy1
                        have zz0 := fun x : After W2 => At.cell e0 x
                        have zz1 := fun x : After W2 => At.cell e1 x
                        have zz2 := fun x : After W2 => At.cell e2 x
                        have zz3 := fun x : After W2 => At.cell e3 x
                        have zz4 := fun x : After W2 => At.cell f3 x
                        have zz5 := fun x : After W2 => At.cell f0 x
                        have zz6 := fun x : After W2 => At.cell f1 x
                        refine wp_region_after (by kernel_rfl) (by kernel_rfl) ?_
                        repeat (go_big_quiet_step ((first | (go_at_call 64; first | exact after_same (call_b (In_any _ _ _ _) h1) | exact after_same (call_b (In_any _ _ _ _) h2)) | (go_at_call 107; exact after_call (call_b (Inside_any _ _ _ _) h3')))))
                        refine wpQuiet_nil ?_
                        intro W3 hbW3
                        clear zz0 zz1 zz2 zz3 zz4 zz5 zz6
                        go_wp2
                        go_ret
                        exact BAD.out _ (hW2.trans (hbW3.mono hW2.size)) HNO.out
                    · have h2' : inB xd y.come l.last = false := by simpa using h2
                      have HNO : Hid (l.weightOk ⟨xn, xd, xw⟩ = false) := by show _ = false; rw [HY.out, h2']; simp
                      clear h2
                      go_wp2
                      obtain ⟨W2, hNW2, BX2, hW2, hzW2⟩ := Box.named wr #[.int .i64 (xn : Int), .int .i64 xd, .int .i64 xw.lo, .int .i64 xw.hi] 114
                      rw [hNW2]
                      clear hNW2
                      have e0 := BX2.cell 0 (.int .i64 xn) rfl
                      have e1 := BX2.cell 1 (.int .i64 xd) rfl
                      have f3 := ((BX.lift hb).lift hW2).cell 3 (.slice (some ⟨b2, o2, none⟩) cn cc) rfl
                      have f0 := ((BX.lift hb).lift hW2).cell 0 (.int .i64 l.last) rfl
                      have f1 := lift (hw.trans (hW2.mono hw.size)) hy1
                      have zz0 := fun x : After W2 => At.cell e0 x
                      have zz1 := fun x : After W2 => At.cell e1 x
                      have zz2 := fun x : After W2 => At.cell f3 x
                      have zz3 := fun x : After W2 => At.cell f0 x
                      have zz4 := fun x : After W2 => At.cell f1 x
                      refine wp_region_after (by kernel_rfl) (by kernel_rfl) ?_
                      repeat (go_big_quiet_step ((go_at_call 64; first | exact after_same (call_b (In_any _ _ _ _) h1) | exact after_same (call_b (In_any _ _ _ _) h2'))))
                      refine wpQuiet_nil ?_
                      intro W3 hbW3
                      clear zz0 zz1 zz2 zz3 zz4
                      go_wp2
                      go_ret
                      exact BAD.out _ (hW2.trans (hbW3.mono hW2.size)) HNO.out
                  · have h1' : inB xc 0 (↑cn - 1) = false := by simpa using h1
                    have HNO : Hid (l.weightOk ⟨xc, xd, xw⟩ = false) := by
                      show _ = false
                      simp [LoftD.weightOk, LoftD.is, HLc.out, h1']
                    clear h1
                    go_wp2
                    obtain ⟨W2, hNW2, BX2, hW2, hzW2⟩ := Box.named wr #[.int .i64 xc, .int .i64 xd, .int .i64 xw.lo, .int .i64 xw.hi] 114
                    rw [hNW2]
                    clear hNW2
                    have e0 := BX2.cell 0 (.int .i64 xc) rfl
                    have f3 := ((BX.lift hb).lift hW2).cell 3 (.slice ca cn cc) rfl
                    have zz0 := fun x : After W2 => At.cell e0 x
                    have zz1 := fun x : After W2 => At.cell f3 x
                    refine wp_region_after (by kernel_rfl) (by kernel_rfl) ?_
                    repeat (go_big_quiet_step ((go_at_call 64; exact after_same (call_b (In_any _ _ _ _) h1'))))
                    refine wpQuiet_nil ?_
                    intro W3 hbW3
                    clear zz0 zz1
                    go_wp2
                    go_ret
                    exact BAD.out _ (hW2.trans (hbW3.mono hW2.size)) HNO.out
                · obtain rfl : wn = k := by omega
                  have HG : Hid (l.weights.all l.weightOk = true) := by
                    have h1 : (l.weights.take wn).all l.weightOk = true := hq
                    rwa [take_len HLw.out] at h1
                  clear hq
                  have b0 := (BX.lift hb).cell 0 (.int .i64 l.last) rfl
                  have b1 := (BX.lift hb).cell 1 (.slice aa an ac) rfl
                  have b2 := (BX.lift hb).cell 2 (.slice ba bn bc) rfl
                  have b3 := (BX.lift hb).cell 3 (.slice ca cn cc) rfl
                  have b4 := (BX.lift hb).cell 4 (.slice pa pn pc) rfl
                  have hfin := lf_h HA.out HB.out HC.out HD.out HE.out HF.out HG.out
                  have HFIN := Lib.hid hfin
                  clear hfin
                  by_cases hm : 2000 < capMul 3000 l.sizes
                  · go_wp2_with (go_at_call 89; refine (Many06_any ⟨l.last, ⟨aa, an, ac⟩, ⟨ba, bn, bc⟩, ⟨ca, cn, cc⟩, ⟨pa, pn, pc⟩, ⟨wa, wn, wc⟩⟩ l _ (h.below hw) (airOk HC.out) (cakesOk HE.out)).mono ?_; rintro e w1 ⟨rfl, hb1⟩)
                    go_ret
                    exact ⟨ret_int (by rw [HFIN.out, if_pos hm]), hw.trans (hb1.mono hw.size)⟩
                  · go_wp2_with (go_at_call 89; refine (Many06_any ⟨l.last, ⟨aa, an, ac⟩, ⟨ba, bn, bc⟩, ⟨ca, cn, cc⟩, ⟨pa, pn, pc⟩, ⟨wa, wn, wc⟩⟩ l _ (h.below hw) (airOk HC.out) (cakesOk HE.out)).mono ?_; rintro e w1 ⟨rfl, hb1⟩)
                    go_ret
                    exact ⟨ret_int ((HFIN.out.trans (if_neg (show ¬ capMul 3000 l.sizes > 2000 by omega))).symm), hw.trans (hb1.mono hw.size)⟩
end Go.Proofs.YtenfnakhijobkaaGreat
namespace Go.Proofs.YtenfnakhijobkaaGreat
open Go.RowKit Go.Proofs.YtenfnakhijobkaaGreatW.PrintLast
def airOk9 (r : Rg) : Bool := r.upTo 9

theorem all_rg_clo (B : Nat) (x : Rg) (w : World) (hB : w.cell? ⟨B, 0, none⟩ = some (.func (.func 171) #[] #[])) :
    Calls Tryz.prog 193 #[.agg #[.int .i64 x.lo, .int .i64 x.hi], .pointer (some ⟨B, 0, none⟩)] w fun e w' => e = .returned (.bool (!airOk9 x)) ∧ Below w.heap.size w w' := by
  have hb0 := World.block_lt_of_cell? w ⟨B, 0, none⟩ hB
  go_enter Tryz.func193, Tryz.ntmps193
  go_wp2_with (go_at_call 171; refine (air_any _ _ _).mono ?_; rintro e w' ⟨rfl, hb⟩)
  go_ret
  exact ⟨rfl, below_on (below_box _ _) hb⟩
theorem all_rg_idx (B : Nat) (s : Sl) (xs : List Rg) (w : World) (h : Rd (encR Rg.cs) 2 w s xs) (hB : w.cell? ⟨B, 0, none⟩ = some (.func (.func 171) #[] #[])) :
    Calls Tryz.prog 203 #[.slice s.a s.n s.c, .func (.func 193) #[] #[.pointer (some ⟨B, 0, none⟩)]] w fun e w' => ∃ r : Int, e = .returned (.int .i64 r) ∧ decide (0 ≤ r) = (!xs.all airOk9) ∧ Below w.heap.size w w' := by
  obtain ⟨sa, sn, sc⟩ := s
  have hs : sn ≤ 281474976710656 := by have := h.small; simp at this; omega
  have HL : Hid (xs.length = sn) := h.len
  go_enter Tryz.func203, Tryz.ntmps203
  go_wp2
  go_loopw [8] (fun i wr => ∃ k : Nat, k ≤ sn ∧ i = .int .i64 k ∧ Hid ((xs.take k).all airOk9 = true) ∧ Below w.heap.size w wr) (fun i _ => sn - (intOf i).toNat)
  case atStart => exact ⟨0, Nat.zero_le _, rfl, by simp [Hid], Below.refl _ _⟩
  case round =>
    obtain ⟨k, hk, rfl, hq, hb⟩ := hrel
    by_cases hlt : k < sn
    · obtain ⟨x, hx⟩ := at_of_lt HL.out hlt
      obtain ⟨b, o, ha, hbl, hc0, hc1⟩ := h.rg_at hx
      have hc0 := lift hb hc0
      have hc1 := lift hb hc1
      have HX := Lib.hid hx
      simp only at ha
      subst ha
      clear hx
      have HB := Lib.hid (lift hb hB)
      have hR := all_rg_clo B x wr HB.out
      cases hp : airOk9 x
      all_goals rw [hp] at hR
      all_goals have HP := Lib.hid hp
      all_goals clear hp
      · go_wp2_with (go_at_call 193; refine hR.mono ?_; rintro e w1 ⟨rfl, hb1⟩)
        go_ret
        exact ⟨k, rfl, by rw [all_of_at _ HX.out HP.out, decide_eq_true (by omega)]; rfl, below_on hb hb1⟩
      · go_wp2_with (go_at_call 193; refine hR.mono ?_; rintro e w1 ⟨rfl, hb1⟩)
        go_roundw
        case rel => exact ⟨k + 1, by omega, by go_num, by
          show (xs.take (k + 1)).all _ = true
          rw [take_all _ HX.out, hq.out, HP.out]; rfl, below_on hb hb1⟩
        case measure => simp [intOf]; omega
    · obtain rfl : k = sn := by omega
      have HQ : Hid (xs.all airOk9 = true) := by
        have h1 := hq.out
        rwa [take_len HL.out] at h1
      clear hq
      go_wp2
      go_ret
      exact ⟨-1, rfl, by rw [HQ.out]; rfl, hb⟩
theorem all_rg_cont (B : Nat) (s : Sl) (xs : List Rg) (w : World) (h : Rd (encR Rg.cs) 2 w s xs) (hB : w.cell? ⟨B, 0, none⟩ = some (.func (.func 171) #[] #[])) :
    Calls Tryz.prog 192 #[.slice s.a s.n s.c, .func (.func 193) #[] #[.pointer (some ⟨B, 0, none⟩)]] w fun e w' => e = .returned (.bool (!xs.all airOk9)) ∧ Below w.heap.size w w' := by
  go_enter Tryz.func192, Tryz.ntmps192
  go_wp2_with (go_at_call 203; refine (all_rg_idx B s xs _ h hB).mono ?_; rintro e w1 ⟨r, rfl, hr, hb1⟩; have HR := Lib.hid hr; clear hr)
  go_ret
  exact ⟨ret_bool HR.out, hb1⟩
theorem all_rg_all (s : Sl) (xs : List Rg) (w : World) (h : Rd (encR Rg.cs) 2 w s xs) :
    Calls Tryz.prog 170 #[.slice s.a s.n s.c, (.func (.func 171) #[] #[])] w fun e w' => e = .returned (.bool (xs.all airOk9)) ∧ Below w.heap.size w w' := by
  go_enter Tryz.func170, Tryz.ntmps170
  go_wp2_with (go_at_call 192; obtain ⟨W0, hNW0, BX, hW0, hzW0⟩ := Box.named w #[(.func (.func 171) #[] #[])] 241; rw [hNW0]; clear hNW0; refine (all_rg_cont w.heap.size s xs _ (h.below (encR_mono _) hW0) (BX.cell 0 _ rfl)).mono ?_; rintro e w1 ⟨rfl, hb1⟩)
  go_ret
  exact ⟨ret_bool (by simp), below_on hW0 hb1⟩


theorem all_board_clo (B : Nat) (x : BoardD) (w : World) (hB : w.cell? ⟨B, 0, none⟩ = some (.func (.func 173) #[] #[])) :
    Calls Tryz.prog 195 #[.agg #[.int .i64 x.room, .int .i64 x.draft], .pointer (some ⟨B, 0, none⟩)] w fun e w' => e = .returned (.bool (!BoardD.ok x)) ∧ Below w.heap.size w w' := by
  have hb0 := World.block_lt_of_cell? w ⟨B, 0, none⟩ hB
  go_enter Tryz.func195, Tryz.ntmps195
  go_wp2_with (go_at_call 173; refine (valid_any _ _ _).mono ?_; rintro e w' ⟨rfl, hb⟩)
  go_ret
  exact ⟨rfl, below_on (below_box _ _) hb⟩
theorem all_board_idx (B : Nat) (s : Sl) (xs : List BoardD) (w : World) (h : Rd (encR BoardD.cs) 2 w s xs) (hB : w.cell? ⟨B, 0, none⟩ = some (.func (.func 173) #[] #[])) :
    Calls Tryz.prog 204 #[.slice s.a s.n s.c, .func (.func 195) #[] #[.pointer (some ⟨B, 0, none⟩)]] w fun e w' => ∃ r : Int, e = .returned (.int .i64 r) ∧ decide (0 ≤ r) = (!xs.all BoardD.ok) ∧ Below w.heap.size w w' := by
  obtain ⟨sa, sn, sc⟩ := s
  have hs : sn ≤ 281474976710656 := by have := h.small; simp at this; omega
  have HL : Hid (xs.length = sn) := h.len
  go_enter Tryz.func204, Tryz.ntmps204
  go_wp2
  go_loopw [8] (fun i wr => ∃ k : Nat, k ≤ sn ∧ i = .int .i64 k ∧ Hid ((xs.take k).all BoardD.ok = true) ∧ Below w.heap.size w wr) (fun i _ => sn - (intOf i).toNat)
  case atStart => exact ⟨0, Nat.zero_le _, rfl, by simp [Hid], Below.refl _ _⟩
  case round =>
    obtain ⟨k, hk, rfl, hq, hb⟩ := hrel
    by_cases hlt : k < sn
    · obtain ⟨x, hx⟩ := at_of_lt HL.out hlt
      obtain ⟨b, o, ha, hbl, hc0, hc1⟩ := h.board_at hx
      have hc0 := lift hb hc0
      have hc1 := lift hb hc1
      have HX := Lib.hid hx
      simp only at ha
      subst ha
      clear hx
      have HB := Lib.hid (lift hb hB)
      have hR := all_board_clo B x wr HB.out
      cases hp : BoardD.ok x
      all_goals rw [hp] at hR
      all_goals have HP := Lib.hid hp
      all_goals clear hp
      · go_wp2_with (go_at_call 195; refine hR.mono ?_; rintro e w1 ⟨rfl, hb1⟩)
        go_ret
        exact ⟨k, rfl, by rw [all_of_at _ HX.out HP.out, decide_eq_true (by omega)]; rfl, below_on hb hb1⟩
      · go_wp2_with (go_at_call 195; refine hR.mono ?_; rintro e w1 ⟨rfl, hb1⟩)
        go_roundw
        case rel => exact ⟨k + 1, by omega, by go_num, by
          show (xs.take (k + 1)).all _ = true
          rw [take_all _ HX.out, hq.out, HP.out]; rfl, below_on hb hb1⟩
        case measure => simp [intOf]; omega
    · obtain rfl : k = sn := by omega
      have HQ : Hid (xs.all BoardD.ok = true) := by
        have h1 := hq.out
        rwa [take_len HL.out] at h1
      clear hq
      go_wp2
      go_ret
      exact ⟨-1, rfl, by rw [HQ.out]; rfl, hb⟩
theorem all_board_cont (B : Nat) (s : Sl) (xs : List BoardD) (w : World) (h : Rd (encR BoardD.cs) 2 w s xs) (hB : w.cell? ⟨B, 0, none⟩ = some (.func (.func 173) #[] #[])) :
    Calls Tryz.prog 194 #[.slice s.a s.n s.c, .func (.func 195) #[] #[.pointer (some ⟨B, 0, none⟩)]] w fun e w' => e = .returned (.bool (!xs.all BoardD.ok)) ∧ Below w.heap.size w w' := by
  go_enter Tryz.func194, Tryz.ntmps194
  go_wp2_with (go_at_call 204; refine (all_board_idx B s xs _ h hB).mono ?_; rintro e w1 ⟨r, rfl, hr, hb1⟩; have HR := Lib.hid hr; clear hr)
  go_ret
  exact ⟨ret_bool HR.out, hb1⟩
theorem all_board_all (s : Sl) (xs : List BoardD) (w : World) (h : Rd (encR BoardD.cs) 2 w s xs) :
    Calls Tryz.prog 172 #[.slice s.a s.n s.c, (.func (.func 173) #[] #[])] w fun e w' => e = .returned (.bool (xs.all BoardD.ok)) ∧ Below w.heap.size w w' := by
  go_enter Tryz.func172, Tryz.ntmps172
  go_wp2_with (go_at_call 194; obtain ⟨W0, hNW0, BX, hW0, hzW0⟩ := Box.named w #[(.func (.func 173) #[] #[])] 243; rw [hNW0]; clear hNW0; refine (all_board_cont w.heap.size s xs _ (h.below (encR_mono _) hW0) (BX.cell 0 _ rfl)).mono ?_; rintro e w1 ⟨rfl, hb1⟩)
  go_ret
  exact ⟨ret_bool (by simp), below_on hW0 hb1⟩


theorem all_cake_clo (v : LoftV) (l : LoftD) (B : Nat) (x : CakeD) (w : World) (hB : w.cell? ⟨B, 0, none⟩ = some (.func (.func 168) #[.agg v.cs] #[])) (hV : RdLoft w v l) :
    Calls Tryz.prog 197 #[.agg #[.int .i64 x.come, .int .i64 x.water.lo, .int .i64 x.water.hi, .int .i64 x.keep], .pointer (some ⟨B, 0, none⟩)] w fun e w' => e = .returned (.bool (!(LoftD.cakeOk l) x)) ∧ Below w.heap.size w w' := by
  have hb0 := World.block_lt_of_cell? w ⟨B, 0, none⟩ hB
  go_enter Tryz.func197, Tryz.ntmps197
  go_wp2_with (go_at_call 168; refine (cake_any v l _ _ _ _ _ (hV.below (below_box _ _))).mono ?_; rintro e w' ⟨rfl, hb⟩)
  go_ret
  exact ⟨rfl, below_on (below_box _ _) hb⟩
theorem all_cake_idx (v : LoftV) (l : LoftD) (B : Nat) (s : Sl) (xs : List CakeD) (w : World) (h : Rd (encR CakeD.cs) 4 w s xs) (hB : w.cell? ⟨B, 0, none⟩ = some (.func (.func 168) #[.agg v.cs] #[])) (hV : RdLoft w v l) :
    Calls Tryz.prog 205 #[.slice s.a s.n s.c, .func (.func 197) #[] #[.pointer (some ⟨B, 0, none⟩)]] w fun e w' => ∃ r : Int, e = .returned (.int .i64 r) ∧ decide (0 ≤ r) = (!xs.all (LoftD.cakeOk l)) ∧ Below w.heap.size w w' := by
  obtain ⟨sa, sn, sc⟩ := s
  have hs : sn ≤ 281474976710656 := by have := h.small; simp at this; omega
  have HL : Hid (xs.length = sn) := h.len
  go_enter Tryz.func205, Tryz.ntmps205
  go_wp2
  go_loopw [8] (fun i wr => ∃ k : Nat, k ≤ sn ∧ i = .int .i64 k ∧ Hid ((xs.take k).all (LoftD.cakeOk l) = true) ∧ Below w.heap.size w wr) (fun i _ => sn - (intOf i).toNat)
  case atStart => exact ⟨0, Nat.zero_le _, rfl, by simp [Hid], Below.refl _ _⟩
  case round =>
    obtain ⟨k, hk, rfl, hq, hb⟩ := hrel
    by_cases hlt : k < sn
    · obtain ⟨x, hx⟩ := at_of_lt HL.out hlt
      obtain ⟨b, o, ha, hbl, hc0, hc1, hc2, hc3⟩ := h.cake_at hx
      have hc0 := lift hb hc0
      have hc1 := lift hb hc1
      have hc2 := lift hb hc2
      have hc3 := lift hb hc3
      have HX := Lib.hid hx
      simp only at ha
      subst ha
      clear hx
      have HB := Lib.hid (lift hb hB)
      have hR := all_cake_clo v l B x wr HB.out (hV.below hb)
      cases hp : (LoftD.cakeOk l) x
      all_goals rw [hp] at hR
      all_goals have HP := Lib.hid hp
      all_goals clear hp
      · go_wp2_with (go_at_call 197; refine hR.mono ?_; rintro e w1 ⟨rfl, hb1⟩)
        go_ret
        exact ⟨k, rfl, by rw [all_of_at _ HX.out HP.out, decide_eq_true (by omega)]; rfl, below_on hb hb1⟩
      · go_wp2_with (go_at_call 197; refine hR.mono ?_; rintro e w1 ⟨rfl, hb1⟩)
        go_roundw
        case rel => exact ⟨k + 1, by omega, by go_num, by
          show (xs.take (k + 1)).all _ = true
          rw [take_all _ HX.out, hq.out, HP.out]; rfl, below_on hb hb1⟩
        case measure => simp [intOf]; omega
    · obtain rfl : k = sn := by omega
      have HQ : Hid (xs.all (LoftD.cakeOk l) = true) := by
        have h1 := hq.out
        rwa [take_len HL.out] at h1
      clear hq
      go_wp2
      go_ret
      exact ⟨-1, rfl, by rw [HQ.out]; rfl, hb⟩
theorem all_cake_cont (v : LoftV) (l : LoftD) (B : Nat) (s : Sl) (xs : List CakeD) (w : World) (h : Rd (encR CakeD.cs) 4 w s xs) (hB : w.cell? ⟨B, 0, none⟩ = some (.func (.func 168) #[.agg v.cs] #[])) (hV : RdLoft w v l) :
    Calls Tryz.prog 196 #[.slice s.a s.n s.c, .func (.func 197) #[] #[.pointer (some ⟨B, 0, none⟩)]] w fun e w' => e = .returned (.bool (!xs.all (LoftD.cakeOk l))) ∧ Below w.heap.size w w' := by
  go_enter Tryz.func196, Tryz.ntmps196
  go_wp2_with (go_at_call 205; refine (all_cake_idx v l B s xs _ h hB hV).mono ?_; rintro e w1 ⟨r, rfl, hr, hb1⟩; have HR := Lib.hid hr; clear hr)
  go_ret
  exact ⟨ret_bool HR.out, hb1⟩
theorem all_cake_all (v : LoftV) (l : LoftD) (s : Sl) (xs : List CakeD) (w : World) (h : Rd (encR CakeD.cs) 4 w s xs) (hV : RdLoft w v l) :
    Calls Tryz.prog 174 #[.slice s.a s.n s.c, (.func (.func 168) #[.agg v.cs] #[])] w fun e w' => e = .returned (.bool (xs.all (LoftD.cakeOk l))) ∧ Below w.heap.size w w' := by
  go_enter Tryz.func174, Tryz.ntmps174
  go_wp2_with (go_at_call 196; obtain ⟨W0, hNW0, BX, hW0, hzW0⟩ := Box.named w #[(.func (.func 168) #[.agg v.cs] #[])] 238; rw [hNW0]; clear hNW0; refine (all_cake_cont v l w.heap.size s xs _ (h.below (encR_mono _) hW0) (BX.cell 0 _ rfl) (hV.below hW0)).mono ?_; rintro e w1 ⟨rfl, hb1⟩)
  go_ret
  exact ⟨ret_bool (by simp), below_on hW0 hb1⟩


theorem all_weight_clo (v : LoftV) (l : LoftD) (B : Nat) (x : WeightD) (w : World) (hB : w.cell? ⟨B, 0, none⟩ = some (.func (.func 169) #[.agg v.cs] #[])) (hV : RdLoft w v l) :
    Calls Tryz.prog 199 #[.agg #[.int .i64 x.cake, .int .i64 x.day, .int .i64 x.water.lo, .int .i64 x.water.hi], .pointer (some ⟨B, 0, none⟩)] w fun e w' => e = .returned (.bool (!(LoftD.weightOk l) x)) ∧ Below w.heap.size w w' := by
  have hb0 := World.block_lt_of_cell? w ⟨B, 0, none⟩ hB
  go_enter Tryz.func199, Tryz.ntmps199
  go_wp2_with (go_at_call 169; refine (weight_any v l _ _ _ _ _ (hV.below (below_box _ _))).mono ?_; rintro e w' ⟨rfl, hb⟩)
  go_ret
  exact ⟨rfl, below_on (below_box _ _) hb⟩
theorem all_weight_idx (v : LoftV) (l : LoftD) (B : Nat) (s : Sl) (xs : List WeightD) (w : World) (h : Rd (encR WeightD.cs) 4 w s xs) (hB : w.cell? ⟨B, 0, none⟩ = some (.func (.func 169) #[.agg v.cs] #[])) (hV : RdLoft w v l) :
    Calls Tryz.prog 206 #[.slice s.a s.n s.c, .func (.func 199) #[] #[.pointer (some ⟨B, 0, none⟩)]] w fun e w' => ∃ r : Int, e = .returned (.int .i64 r) ∧ decide (0 ≤ r) = (!xs.all (LoftD.weightOk l)) ∧ Below w.heap.size w w' := by
  obtain ⟨sa, sn, sc⟩ := s
  have hs : sn ≤ 281474976710656 := by have := h.small; simp at this; omega
  have HL : Hid (xs.length = sn) := h.len
  go_enter Tryz.func206, Tryz.ntmps206
  go_wp2
  go_loopw [8] (fun i wr => ∃ k : Nat, k ≤ sn ∧ i = .int .i64 k ∧ Hid ((xs.take k).all (LoftD.weightOk l) = true) ∧ Below w.heap.size w wr) (fun i _ => sn - (intOf i).toNat)
  case atStart => exact ⟨0, Nat.zero_le _, rfl, by simp [Hid], Below.refl _ _⟩
  case round =>
    obtain ⟨k, hk, rfl, hq, hb⟩ := hrel
    by_cases hlt : k < sn
    · obtain ⟨x, hx⟩ := at_of_lt HL.out hlt
      obtain ⟨b, o, ha, hbl, hc0, hc1, hc2, hc3⟩ := h.weight_at hx
      have hc0 := lift hb hc0
      have hc1 := lift hb hc1
      have hc2 := lift hb hc2
      have hc3 := lift hb hc3
      have HX := Lib.hid hx
      simp only at ha
      subst ha
      clear hx
      have HB := Lib.hid (lift hb hB)
      have hR := all_weight_clo v l B x wr HB.out (hV.below hb)
      cases hp : (LoftD.weightOk l) x
      all_goals rw [hp] at hR
      all_goals have HP := Lib.hid hp
      all_goals clear hp
      · go_wp2_with (go_at_call 199; refine hR.mono ?_; rintro e w1 ⟨rfl, hb1⟩)
        go_ret
        exact ⟨k, rfl, by rw [all_of_at _ HX.out HP.out, decide_eq_true (by omega)]; rfl, below_on hb hb1⟩
      · go_wp2_with (go_at_call 199; refine hR.mono ?_; rintro e w1 ⟨rfl, hb1⟩)
        go_roundw
        case rel => exact ⟨k + 1, by omega, by go_num, by
          show (xs.take (k + 1)).all _ = true
          rw [take_all _ HX.out, hq.out, HP.out]; rfl, below_on hb hb1⟩
        case measure => simp [intOf]; omega
    · obtain rfl : k = sn := by omega
      have HQ : Hid (xs.all (LoftD.weightOk l) = true) := by
        have h1 := hq.out
        rwa [take_len HL.out] at h1
      clear hq
      go_wp2
      go_ret
      exact ⟨-1, rfl, by rw [HQ.out]; rfl, hb⟩
theorem all_weight_cont (v : LoftV) (l : LoftD) (B : Nat) (s : Sl) (xs : List WeightD) (w : World) (h : Rd (encR WeightD.cs) 4 w s xs) (hB : w.cell? ⟨B, 0, none⟩ = some (.func (.func 169) #[.agg v.cs] #[])) (hV : RdLoft w v l) :
    Calls Tryz.prog 198 #[.slice s.a s.n s.c, .func (.func 199) #[] #[.pointer (some ⟨B, 0, none⟩)]] w fun e w' => e = .returned (.bool (!xs.all (LoftD.weightOk l))) ∧ Below w.heap.size w w' := by
  go_enter Tryz.func198, Tryz.ntmps198
  go_wp2_with (go_at_call 206; refine (all_weight_idx v l B s xs _ h hB hV).mono ?_; rintro e w1 ⟨r, rfl, hr, hb1⟩; have HR := Lib.hid hr; clear hr)
  go_ret
  exact ⟨ret_bool HR.out, hb1⟩
theorem all_weight_all (v : LoftV) (l : LoftD) (s : Sl) (xs : List WeightD) (w : World) (h : Rd (encR WeightD.cs) 4 w s xs) (hV : RdLoft w v l) :
    Calls Tryz.prog 175 #[.slice s.a s.n s.c, (.func (.func 169) #[.agg v.cs] #[])] w fun e w' => e = .returned (.bool (xs.all (LoftD.weightOk l))) ∧ Below w.heap.size w w' := by
  go_enter Tryz.func175, Tryz.ntmps175
  go_wp2_with (go_at_call 198; obtain ⟨W0, hNW0, BX, hW0, hzW0⟩ := Box.named w #[(.func (.func 169) #[.agg v.cs] #[])] 239; rw [hNW0]; clear hNW0; refine (all_weight_cont v l w.heap.size s xs _ (h.below (encR_mono _) hW0) (BX.cell 0 _ rfl) (hV.below hW0)).mono ?_; rintro e w1 ⟨rfl, hb1⟩)
  go_ret
  exact ⟨ret_bool (by simp), below_on hW0 hb1⟩

end Go.Proofs.YtenfnakhijobkaaGreat
namespace Go.Proofs.YtenfnakhijobkaaGreat
open Go.RowKit Go.Proofs.YtenfnakhijobkaaGreatW.PrintLast

def minStep (n s : Int) : Int := min (n * s) 2001
theorem minStep_cap {a b s : Int} (ha : 1 ≤ a) (hb : b = min a 2001) (hs : 1 ≤ s) : minStep b s = min (capStep 3000 a s) 2001 := by
  subst hb
  unfold minStep capStep
  have h1 : 1 * 1 ≤ a * s := Int.mul_le_mul ha hs (by omega) (by omega)
  by_cases h : a ≤ 2001
  · rw [Int.min_eq_left (a := a) (b := 2001) h]
    split <;> omega
  · rw [Int.min_eq_right (a := a) (b := 2001) (by omega)]
    have h2 : 2001 * 1 ≤ 2001 * s := Int.mul_le_mul (by omega) hs (by omega) (by omega)
    have h3 : 2001 * 1 ≤ a * s := Int.mul_le_mul (by omega) hs (by omega) (by omega)
    split <;> omega
theorem minFold_cap : ∀ (ss : List Int) (a b : Int), 1 ≤ a → a ≤ 3000 → b = min a 2001 → (∀ s ∈ ss, 1 ≤ s) → ss.foldl minStep b = min (ss.foldl (capStep 3000) a) 2001
  | [], a, b, _, _, hb, _ => hb
  | s :: ss, a, b, ha, ha2, hb, hs => by
    have h1 := capStep_pos (cap := 3000) (by omega) ha (hs s (by simp))
    rw [List.foldl_cons, List.foldl_cons]
    exact minFold_cap ss _ _ h1.1 h1.2 (minStep_cap ha hb (hs s (by simp))) fun s' hs' => hs s' (by simp [hs'])
theorem lranges_sizes (l : LoftD) : l.ranges.map Rg.size = l.sizes := by
  unfold LoftD.ranges LoftD.sizes
  rw [List.map_append, List.map_map]; rfl

set_option maxHeartbeats 4000000 in
set_option maxRecDepth 100000 in
theorem CheckLoft_any (v : LoftV) (l : LoftD) (w : World) (h : RdLoft w v l) :
    Calls Tryz.prog 148 #[.agg v.cs] w fun e w' => e = .returned (.int .i64 (loftFault l)) ∧ Below w.heap.size w w' := by
  obtain ⟨hn1, hn2, hn3, hn4, hn5⟩ := h.nle
  have HV : Hid (v.last = l.last) := h.last
  obtain ⟨L, hL⟩ : ∃ L : Int, v.last = L := ⟨_, rfl⟩
  have HVL := Lib.hid hL
  clear hL
  have HLL : Hid (l.last = L) := by show _ = _; rw [← HV.out, HVL.out]
  have HLa : Hid (l.air.length = v.air.n) := h.air.len
  have HLb : Hid (l.shelves.length = v.shelves.n) := h.shelves.len
  have HLc : Hid (l.cakes.length = v.cakes.n) := h.cakes.len
  have HLw : Hid (l.weights.length = v.weights.n) := h.weights.len
  by_cases hA : L > 5 ∨ v.shelves.n > 3 ∨ v.cakes.n > 5 ∨ v.weights.n > 5
  · have hA' : l.last > 5 ∨ l.shelves.length > 3 ∨ l.cakes.length > 5 ∨ l.weights.length > 5 := by rw [HLL.out, HLb.out, HLc.out, HLw.out]; exact hA
    have HA := Lib.hid hA'
    clear hA'
    go_enter Tryz.func148, Tryz.ntmps148
    go_wp2
    obtain ⟨W0, hNW0, BX, hW0, hzW0⟩ := Box.named w (LoftV.cs v) 44
    rw [hNW0]
    clear hNW0
    have c0 := BX.cell 0 (.int .i64 v.last) rfl
    have c1 := BX.cell 1 (.slice v.air.a v.air.n v.air.c) rfl
    have c2 := BX.cell 2 (.slice v.shelves.a v.shelves.n v.shelves.c) rfl
    have c3 := BX.cell 3 (.slice v.cakes.a v.cakes.n v.cakes.c) rfl
    have c4 := BX.cell 4 (.slice v.put.a v.put.n v.put.c) rfl
    have c5 := BX.cell 5 (.slice v.weights.a v.weights.n v.weights.c) rfl
    have zz0 := fun x : After W0 => At.cell c0 x
    have zz1 := fun x : After W0 => At.cell c1 x
    have zz2 := fun x : After W0 => At.cell c2 x
    have zz3 := fun x : After W0 => At.cell c3 x
    have zz4 := fun x : After W0 => At.cell c4 x
    have zz5 := fun x : After W0 => At.cell c5 x
    refine wp_region_after (by kernel_rfl) (by kernel_rfl) ?_
    repeat (go_big_quiet_step ((fail)))
    refine wpQuiet_nil ?_
    intro W2 hbW2
    clear zz0 zz1 zz2 zz3 zz4 zz5
    have d0 := (BX.lift hbW2).cell 0 (.int .i64 v.last) rfl
    have d1 := (BX.lift hbW2).cell 1 (.slice v.air.a v.air.n v.air.c) rfl
    have d2 := (BX.lift hbW2).cell 2 (.slice v.shelves.a v.shelves.n v.shelves.c) rfl
    have d3 := (BX.lift hbW2).cell 3 (.slice v.cakes.a v.cakes.n v.cakes.c) rfl
    have d4 := (BX.lift hbW2).cell 4 (.slice v.put.a v.put.n v.put.c) rfl
    have d5 := (BX.lift hbW2).cell 5 (.slice v.weights.a v.weights.n v.weights.c) rfl
    rw [HVL.out] at d0
    have hw2 := below_on hW0 hbW2
    clear c0 c1 c2 c3 c4 c5
    go_wp2
    all_goals try (go_ret; exact ⟨ret_int (lf_a HA.out), hw2⟩)
    all_goals (exfalso; have := HA.out; have := HLL.out; have := HLb.out; have := HLc.out; have := HLw.out; omega)
  have HA : Hid (LfA l) := by show LfA l; unfold LfA; rw [HLL.out, HLb.out, HLc.out, HLw.out]; exact hA
  have hA1 : L ≤ 5 := by omega
  have hA2 : v.shelves.n ≤ 3 := by omega
  have hA3 : v.cakes.n ≤ 5 := by omega
  have hA4 : v.weights.n ≤ 5 := by omega
  have hd1 : decide (5 < L) = false := decide_eq_false (by omega)
  have hd2 : decide ((3 : Int) < (v.shelves.n : Int)) = false := decide_eq_false (by omega)
  have hd3 : decide ((5 : Int) < (v.cakes.n : Int)) = false := decide_eq_false (by omega)
  have hd4 : decide ((5 : Int) < (v.weights.n : Int)) = false := decide_eq_false (by omega)
  clear hA
  by_cases hB : L < 0 ∨ (v.air.n : Int) ≠ L + 1
  · have hB' : l.last < 0 ∨ (l.air.length : Int) ≠ l.last + 1 := by rw [HLa.out, HLL.out]; exact hB
    have HB := Lib.hid hB'
    clear hB'
    by_cases h0 : L < 0
    · clear hB
      go_enter Tryz.func148, Tryz.ntmps148
      go_wp2
      obtain ⟨W0, hNW0, BX, hW0, hzW0⟩ := Box.named w (LoftV.cs v) 44
      rw [hNW0]
      clear hNW0
      have c0 := BX.cell 0 (.int .i64 v.last) rfl
      have c1 := BX.cell 1 (.slice v.air.a v.air.n v.air.c) rfl
      have c2 := BX.cell 2 (.slice v.shelves.a v.shelves.n v.shelves.c) rfl
      have c3 := BX.cell 3 (.slice v.cakes.a v.cakes.n v.cakes.c) rfl
      have c4 := BX.cell 4 (.slice v.put.a v.put.n v.put.c) rfl
      have c5 := BX.cell 5 (.slice v.weights.a v.weights.n v.weights.c) rfl
      have zz0 := fun x : After W0 => At.cell c0 x
      have zz1 := fun x : After W0 => At.cell c1 x
      have zz2 := fun x : After W0 => At.cell c2 x
      have zz3 := fun x : After W0 => At.cell c3 x
      have zz4 := fun x : After W0 => At.cell c4 x
      have zz5 := fun x : After W0 => At.cell c5 x
      refine wp_region_after (by kernel_rfl) (by kernel_rfl) ?_
      repeat (go_big_quiet_step ((fail)))
      refine wpQuiet_nil ?_
      intro W2 hbW2
      clear zz0 zz1 zz2 zz3 zz4 zz5
      have d0 := (BX.lift hbW2).cell 0 (.int .i64 v.last) rfl
      have d1 := (BX.lift hbW2).cell 1 (.slice v.air.a v.air.n v.air.c) rfl
      have d2 := (BX.lift hbW2).cell 2 (.slice v.shelves.a v.shelves.n v.shelves.c) rfl
      have d3 := (BX.lift hbW2).cell 3 (.slice v.cakes.a v.cakes.n v.cakes.c) rfl
      have d4 := (BX.lift hbW2).cell 4 (.slice v.put.a v.put.n v.put.c) rfl
      have d5 := (BX.lift hbW2).cell 5 (.slice v.weights.a v.weights.n v.weights.c) rfl
      rw [HVL.out] at d0
      have hw2 := below_on hW0 hbW2
      clear c0 c1 c2 c3 c4 c5
      go_wp2
      go_ret
      exact ⟨ret_int (lf_b HA.out HB.out), hw2⟩
    · have hne : ((v.air.n : Int) != L + 1) = true := bne_iff_ne.2 (hB.resolve_left h0)
      have hd5 : decide (L < 0) = false := decide_eq_false h0
      clear hB
      go_enter Tryz.func148, Tryz.ntmps148
      go_wp2
      obtain ⟨W0, hNW0, BX, hW0, hzW0⟩ := Box.named w (LoftV.cs v) 44
      rw [hNW0]
      clear hNW0
      have c0 := BX.cell 0 (.int .i64 v.last) rfl
      have c1 := BX.cell 1 (.slice v.air.a v.air.n v.air.c) rfl
      have c2 := BX.cell 2 (.slice v.shelves.a v.shelves.n v.shelves.c) rfl
      have c3 := BX.cell 3 (.slice v.cakes.a v.cakes.n v.cakes.c) rfl
      have c4 := BX.cell 4 (.slice v.put.a v.put.n v.put.c) rfl
      have c5 := BX.cell 5 (.slice v.weights.a v.weights.n v.weights.c) rfl
      have zz0 := fun x : After W0 => At.cell c0 x
      have zz1 := fun x : After W0 => At.cell c1 x
      have zz2 := fun x : After W0 => At.cell c2 x
      have zz3 := fun x : After W0 => At.cell c3 x
      have zz4 := fun x : After W0 => At.cell c4 x
      have zz5 := fun x : After W0 => At.cell c5 x
      refine wp_region_after (by kernel_rfl) (by kernel_rfl) ?_
      repeat (go_big_quiet_step ((fail)))
      refine wpQuiet_nil ?_
      intro W2 hbW2
      clear zz0 zz1 zz2 zz3 zz4 zz5
      have d0 := (BX.lift hbW2).cell 0 (.int .i64 v.last) rfl
      have d1 := (BX.lift hbW2).cell 1 (.slice v.air.a v.air.n v.air.c) rfl
      have d2 := (BX.lift hbW2).cell 2 (.slice v.shelves.a v.shelves.n v.shelves.c) rfl
      have d3 := (BX.lift hbW2).cell 3 (.slice v.cakes.a v.cakes.n v.cakes.c) rfl
      have d4 := (BX.lift hbW2).cell 4 (.slice v.put.a v.put.n v.put.c) rfl
      have d5 := (BX.lift hbW2).cell 5 (.slice v.weights.a v.weights.n v.weights.c) rfl
      rw [HVL.out] at d0
      have hw2 := below_on hW0 hbW2
      clear c0 c1 c2 c3 c4 c5
      go_wp2
      go_ret
      exact ⟨ret_int (lf_b HA.out HB.out), hw2⟩
  have HB : Hid (LfB l) := by show LfB l; unfold LfB; rw [HLa.out, HLL.out]; exact hB
  have hBe : (v.air.n : Int) = L + 1 := Decidable.not_not.1 (not_or.1 hB).2
  have hB1 : 0 ≤ L := by omega
  have hB2 : ((v.air.n : Int) != L + 1) = false := by rw [hBe]; simp
  have hB3 : v.air.n ≤ 6 := by omega
  have hd5 : decide (L < 0) = false := decide_eq_false (by omega)
  clear hB hBe
  cases hC : l.air.all airOk9
  · have HC := Lib.hid hC
    go_enter Tryz.func148, Tryz.ntmps148
    go_wp2
    obtain ⟨W0, hNW0, BX, hW0, hzW0⟩ := Box.named w (LoftV.cs v) 44
    rw [hNW0]
    clear hNW0
    have c0 := BX.cell 0 (.int .i64 v.last) rfl
    have c1 := BX.cell 1 (.slice v.air.a v.air.n v.air.c) rfl
    have c2 := BX.cell 2 (.slice v.shelves.a v.shelves.n v.shelves.c) rfl
    have c3 := BX.cell 3 (.slice v.cakes.a v.cakes.n v.cakes.c) rfl
    have c4 := BX.cell 4 (.slice v.put.a v.put.n v.put.c) rfl
    have c5 := BX.cell 5 (.slice v.weights.a v.weights.n v.weights.c) rfl
    have zz0 := fun x : After W0 => At.cell c0 x
    have zz1 := fun x : After W0 => At.cell c1 x
    have zz2 := fun x : After W0 => At.cell c2 x
    have zz3 := fun x : After W0 => At.cell c3 x
    have zz4 := fun x : After W0 => At.cell c4 x
    have zz5 := fun x : After W0 => At.cell c5 x
    refine wp_region_after (by kernel_rfl) (by kernel_rfl) ?_
    repeat (go_big_quiet_step ((fail)))
    refine wpQuiet_nil ?_
    intro W2 hbW2
    clear zz0 zz1 zz2 zz3 zz4 zz5
    have d0 := (BX.lift hbW2).cell 0 (.int .i64 v.last) rfl
    have d1 := (BX.lift hbW2).cell 1 (.slice v.air.a v.air.n v.air.c) rfl
    have d2 := (BX.lift hbW2).cell 2 (.slice v.shelves.a v.shelves.n v.shelves.c) rfl
    have d3 := (BX.lift hbW2).cell 3 (.slice v.cakes.a v.cakes.n v.cakes.c) rfl
    have d4 := (BX.lift hbW2).cell 4 (.slice v.put.a v.put.n v.put.c) rfl
    have d5 := (BX.lift hbW2).cell 5 (.slice v.weights.a v.weights.n v.weights.c) rfl
    rw [HVL.out] at d0
    have hw2 := below_on hW0 hbW2
    clear c0 c1 c2 c3 c4 c5
    go_wp2_with (go_at_call 170; refine (call_b (all_rg_all v.air l.air _ (h.air.below (encR_mono _) hw2)) hC).mono ?_; rintro e w3 ⟨rfl, hb3⟩)
    go_ret
    exact ⟨ret_int (lf_c HA.out HB.out HC.out), below_on hw2 hb3⟩
  have HC : Hid (l.air.all (·.upTo 9) = true) := hC
  cases hD : l.shelves.all BoardD.ok
  · have HD := Lib.hid hD
    go_enter Tryz.func148, Tryz.ntmps148
    go_wp2
    obtain ⟨W0, hNW0, BX, hW0, hzW0⟩ := Box.named w (LoftV.cs v) 44
    rw [hNW0]
    clear hNW0
    have c0 := BX.cell 0 (.int .i64 v.last) rfl
    have c1 := BX.cell 1 (.slice v.air.a v.air.n v.air.c) rfl
    have c2 := BX.cell 2 (.slice v.shelves.a v.shelves.n v.shelves.c) rfl
    have c3 := BX.cell 3 (.slice v.cakes.a v.cakes.n v.cakes.c) rfl
    have c4 := BX.cell 4 (.slice v.put.a v.put.n v.put.c) rfl
    have c5 := BX.cell 5 (.slice v.weights.a v.weights.n v.weights.c) rfl
    have zz0 := fun x : After W0 => At.cell c0 x
    have zz1 := fun x : After W0 => At.cell c1 x
    have zz2 := fun x : After W0 => At.cell c2 x
    have zz3 := fun x : After W0 => At.cell c3 x
    have zz4 := fun x : After W0 => At.cell c4 x
    have zz5 := fun x : After W0 => At.cell c5 x
    refine wp_region_after (by kernel_rfl) (by kernel_rfl) ?_
    repeat (go_big_quiet_step ((fail)))
    refine wpQuiet_nil ?_
    intro W2 hbW2
    clear zz0 zz1 zz2 zz3 zz4 zz5
    have d0 := (BX.lift hbW2).cell 0 (.int .i64 v.last) rfl
    have d1 := (BX.lift hbW2).cell 1 (.slice v.air.a v.air.n v.air.c) rfl
    have d2 := (BX.lift hbW2).cell 2 (.slice v.shelves.a v.shelves.n v.shelves.c) rfl
    have d3 := (BX.lift hbW2).cell 3 (.slice v.cakes.a v.cakes.n v.cakes.c) rfl
    have d4 := (BX.lift hbW2).cell 4 (.slice v.put.a v.put.n v.put.c) rfl
    have d5 := (BX.lift hbW2).cell 5 (.slice v.weights.a v.weights.n v.weights.c) rfl
    rw [HVL.out] at d0
    have hw2 := below_on hW0 hbW2
    clear c0 c1 c2 c3 c4 c5
    go_wp2_with (first | (go_at_call 170; refine (call_b (all_rg_all v.air l.air _ (h.air.below (encR_mono _) hw2)) hC).mono ?_; rintro e w3 ⟨rfl, hb3⟩; have hw3 := below_on hw2 hb3; have BX3 := (BX.lift hbW2).lift hb3; have e2 := BX3.cell 2 (.slice v.shelves.a v.shelves.n v.shelves.c) rfl) | (go_at_call 172; refine (call_b (all_board_all v.shelves l.shelves _ (h.shelves.below (encR_mono _) hw3)) hD).mono ?_; rintro e w4 ⟨rfl, hb4⟩; have hw4 := below_on hw3 hb4; have BX4 := BX3.lift hb4; have f3 := BX4.cell 3 (.slice v.cakes.a v.cakes.n v.cakes.c) rfl))
    go_ret
    exact ⟨ret_int (lf_d HA.out HB.out HC.out HD.out), hw4⟩
  have HD : Hid (l.shelves.all (·.ok) = true) := hD
  cases hE : l.cakes.all l.cakeOk
  · have HE := Lib.hid hE
    go_enter Tryz.func148, Tryz.ntmps148
    go_wp2
    obtain ⟨W0, hNW0, BX, hW0, hzW0⟩ := Box.named w (LoftV.cs v) 44
    rw [hNW0]
    clear hNW0
    have c0 := BX.cell 0 (.int .i64 v.last) rfl
    have c1 := BX.cell 1 (.slice v.air.a v.air.n v.air.c) rfl
    have c2 := BX.cell 2 (.slice v.shelves.a v.shelves.n v.shelves.c) rfl
    have c3 := BX.cell 3 (.slice v.cakes.a v.cakes.n v.cakes.c) rfl
    have c4 := BX.cell 4 (.slice v.put.a v.put.n v.put.c) rfl
    have c5 := BX.cell 5 (.slice v.weights.a v.weights.n v.weights.c) rfl
    have zz0 := fun x : After W0 => At.cell c0 x
    have zz1 := fun x : After W0 => At.cell c1 x
    have zz2 := fun x : After W0 => At.cell c2 x
    have zz3 := fun x : After W0 => At.cell c3 x
    have zz4 := fun x : After W0 => At.cell c4 x
    have zz5 := fun x : After W0 => At.cell c5 x
    refine wp_region_after (by kernel_rfl) (by kernel_rfl) ?_
    repeat (go_big_quiet_step ((fail)))
    refine wpQuiet_nil ?_
    intro W2 hbW2
    clear zz0 zz1 zz2 zz3 zz4 zz5
    have d0 := (BX.lift hbW2).cell 0 (.int .i64 v.last) rfl
    have d1 := (BX.lift hbW2).cell 1 (.slice v.air.a v.air.n v.air.c) rfl
    have d2 := (BX.lift hbW2).cell 2 (.slice v.shelves.a v.shelves.n v.shelves.c) rfl
    have d3 := (BX.lift hbW2).cell 3 (.slice v.cakes.a v.cakes.n v.cakes.c) rfl
    have d4 := (BX.lift hbW2).cell 4 (.slice v.put.a v.put.n v.put.c) rfl
    have d5 := (BX.lift hbW2).cell 5 (.slice v.weights.a v.weights.n v.weights.c) rfl
    rw [HVL.out] at d0
    have hw2 := below_on hW0 hbW2
    clear c0 c1 c2 c3 c4 c5
    go_wp2_with (first | (go_at_call 170; refine (call_b (all_rg_all v.air l.air _ (h.air.below (encR_mono _) hw2)) hC).mono ?_; rintro e w3 ⟨rfl, hb3⟩; have hw3 := below_on hw2 hb3; have BX3 := (BX.lift hbW2).lift hb3; have e2 := BX3.cell 2 (.slice v.shelves.a v.shelves.n v.shelves.c) rfl) | (go_at_call 172; refine (call_b (all_board_all v.shelves l.shelves _ (h.shelves.below (encR_mono _) hw3)) hD).mono ?_; rintro e w4 ⟨rfl, hb4⟩; have hw4 := below_on hw3 hb4; have BX4 := BX3.lift hb4; have f3 := BX4.cell 3 (.slice v.cakes.a v.cakes.n v.cakes.c) rfl) | (go_at_call 174; refine (call_b (all_cake_all v l v.cakes l.cakes _ (h.cakes.below (encR_mono _) hw4) (h.below hw4)) hE).mono ?_; rintro e w5 ⟨rfl, hb5⟩; have hw5 := below_on hw4 hb5; have BX5 := BX4.lift hb5; have g0 := BX5.cell 0 (.int .i64 v.last) rfl; have g1 := BX5.cell 1 (.slice v.air.a v.air.n v.air.c) rfl; have g2 := BX5.cell 2 (.slice v.shelves.a v.shelves.n v.shelves.c) rfl; have g3 := BX5.cell 3 (.slice v.cakes.a v.cakes.n v.cakes.c) rfl; have g4 := BX5.cell 4 (.slice v.put.a v.put.n v.put.c) rfl; have g5 := BX5.cell 5 (.slice v.weights.a v.weights.n v.weights.c) rfl))
    go_ret
    exact ⟨ret_int (lf_e HA.out HB.out HC.out HD.out HE.out), hw5⟩
  have HE := Lib.hid hE
  have HS3 : Hid (l.shelves.length ≤ 3) := by show _ ≤ _; rw [HLb.out]; exact hA2
  have HC5 : Hid (l.cakes.length ≤ 5) := by show _ ≤ _; rw [HLc.out]; exact hA3
  have HC6 : Hid (l.air.length ≤ 6) := by show _ ≤ _; rw [HLa.out]; exact hB3
  have HRM : Hid (∀ b ∈ l.shelves, 0 ≤ b.room) := fun b hb => by
    have := List.all_eq_true.1 HD.out b hb
    simp only [BoardD.ok, Bool.and_eq_true, inB_iff] at this
    omega
  cases hF : isPlace l l.put
  · have HF := Lib.hid hF
    go_enter Tryz.func148, Tryz.ntmps148
    go_wp2
    obtain ⟨W0, hNW0, BX, hW0, hzW0⟩ := Box.named w (LoftV.cs v) 44
    rw [hNW0]
    clear hNW0
    have c0 := BX.cell 0 (.int .i64 v.last) rfl
    have c1 := BX.cell 1 (.slice v.air.a v.air.n v.air.c) rfl
    have c2 := BX.cell 2 (.slice v.shelves.a v.shelves.n v.shelves.c) rfl
    have c3 := BX.cell 3 (.slice v.cakes.a v.cakes.n v.cakes.c) rfl
    have c4 := BX.cell 4 (.slice v.put.a v.put.n v.put.c) rfl
    have c5 := BX.cell 5 (.slice v.weights.a v.weights.n v.weights.c) rfl
    have zz0 := fun x : After W0 => At.cell c0 x
    have zz1 := fun x : After W0 => At.cell c1 x
    have zz2 := fun x : After W0 => At.cell c2 x
    have zz3 := fun x : After W0 => At.cell c3 x
    have zz4 := fun x : After W0 => At.cell c4 x
    have zz5 := fun x : After W0 => At.cell c5 x
    refine wp_region_after (by kernel_rfl) (by kernel_rfl) ?_
    repeat (go_big_quiet_step ((fail)))
    refine wpQuiet_nil ?_
    intro W2 hbW2
    clear zz0 zz1 zz2 zz3 zz4 zz5
    have d0 := (BX.lift hbW2).cell 0 (.int .i64 v.last) rfl
    have d1 := (BX.lift hbW2).cell 1 (.slice v.air.a v.air.n v.air.c) rfl
    have d2 := (BX.lift hbW2).cell 2 (.slice v.shelves.a v.shelves.n v.shelves.c) rfl
    have d3 := (BX.lift hbW2).cell 3 (.slice v.cakes.a v.cakes.n v.cakes.c) rfl
    have d4 := (BX.lift hbW2).cell 4 (.slice v.put.a v.put.n v.put.c) rfl
    have d5 := (BX.lift hbW2).cell 5 (.slice v.weights.a v.weights.n v.weights.c) rfl
    rw [HVL.out] at d0
    have hw2 := below_on hW0 hbW2
    clear c0 c1 c2 c3 c4 c5
    go_wp2_with (first | (go_at_call 170; refine (call_b (all_rg_all v.air l.air _ (h.air.below (encR_mono _) hw2)) hC).mono ?_; rintro e w3 ⟨rfl, hb3⟩; have hw3 := below_on hw2 hb3; have BX3 := (BX.lift hbW2).lift hb3; have e2 := BX3.cell 2 (.slice v.shelves.a v.shelves.n v.shelves.c) rfl) | (go_at_call 172; refine (call_b (all_board_all v.shelves l.shelves _ (h.shelves.below (encR_mono _) hw3)) hD).mono ?_; rintro e w4 ⟨rfl, hb4⟩; have hw4 := below_on hw3 hb4; have BX4 := BX3.lift hb4; have f3 := BX4.cell 3 (.slice v.cakes.a v.cakes.n v.cakes.c) rfl) | (go_at_call 174; refine (call_b (all_cake_all v l v.cakes l.cakes _ (h.cakes.below (encR_mono _) hw4) (h.below hw4)) hE).mono ?_; rintro e w5 ⟨rfl, hb5⟩; have hw5 := below_on hw4 hb5; have BX5 := BX4.lift hb5; have g0 := BX5.cell 0 (.int .i64 v.last) rfl; have g1 := BX5.cell 1 (.slice v.air.a v.air.n v.air.c) rfl; have g2 := BX5.cell 2 (.slice v.shelves.a v.shelves.n v.shelves.c) rfl; have g3 := BX5.cell 3 (.slice v.cakes.a v.cakes.n v.cakes.c) rfl; have g4 := BX5.cell 4 (.slice v.put.a v.put.n v.put.c) rfl; have g5 := BX5.cell 5 (.slice v.weights.a v.weights.n v.weights.c) rfl) | (go_at_call 115; refine (call_b (isPlaceP_any v l v.put l.put _ (h.below hw5) (h.put.below (encR_mono _) hw5) HS3.out HC5.out HRM.out) hF).mono ?_; rintro e w6 ⟨rfl, hb6⟩; have hw6 := below_on hw5 hb6; have BX6 := BX5.lift hb6; have i5 := BX6.cell 5 (.slice v.weights.a v.weights.n v.weights.c) rfl))
    go_ret
    exact ⟨ret_int (lf_f HA.out HB.out HC.out HD.out HE.out HF.out), hw6⟩
  have HF := Lib.hid hF
  cases hG : l.weights.all l.weightOk
  · have HG := Lib.hid hG
    go_enter Tryz.func148, Tryz.ntmps148
    go_wp2
    obtain ⟨W0, hNW0, BX, hW0, hzW0⟩ := Box.named w (LoftV.cs v) 44
    rw [hNW0]
    clear hNW0
    have c0 := BX.cell 0 (.int .i64 v.last) rfl
    have c1 := BX.cell 1 (.slice v.air.a v.air.n v.air.c) rfl
    have c2 := BX.cell 2 (.slice v.shelves.a v.shelves.n v.shelves.c) rfl
    have c3 := BX.cell 3 (.slice v.cakes.a v.cakes.n v.cakes.c) rfl
    have c4 := BX.cell 4 (.slice v.put.a v.put.n v.put.c) rfl
    have c5 := BX.cell 5 (.slice v.weights.a v.weights.n v.weights.c) rfl
    have zz0 := fun x : After W0 => At.cell c0 x
    have zz1 := fun x : After W0 => At.cell c1 x
    have zz2 := fun x : After W0 => At.cell c2 x
    have zz3 := fun x : After W0 => At.cell c3 x
    have zz4 := fun x : After W0 => At.cell c4 x
    have zz5 := fun x : After W0 => At.cell c5 x
    refine wp_region_after (by kernel_rfl) (by kernel_rfl) ?_
    repeat (go_big_quiet_step ((fail)))
    refine wpQuiet_nil ?_
    intro W2 hbW2
    clear zz0 zz1 zz2 zz3 zz4 zz5
    have d0 := (BX.lift hbW2).cell 0 (.int .i64 v.last) rfl
    have d1 := (BX.lift hbW2).cell 1 (.slice v.air.a v.air.n v.air.c) rfl
    have d2 := (BX.lift hbW2).cell 2 (.slice v.shelves.a v.shelves.n v.shelves.c) rfl
    have d3 := (BX.lift hbW2).cell 3 (.slice v.cakes.a v.cakes.n v.cakes.c) rfl
    have d4 := (BX.lift hbW2).cell 4 (.slice v.put.a v.put.n v.put.c) rfl
    have d5 := (BX.lift hbW2).cell 5 (.slice v.weights.a v.weights.n v.weights.c) rfl
    rw [HVL.out] at d0
    have hw2 := below_on hW0 hbW2
    clear c0 c1 c2 c3 c4 c5
    go_wp2_with (first | (go_at_call 170; refine (call_b (all_rg_all v.air l.air _ (h.air.below (encR_mono _) hw2)) hC).mono ?_; rintro e w3 ⟨rfl, hb3⟩; have hw3 := below_on hw2 hb3; have BX3 := (BX.lift hbW2).lift hb3; have e2 := BX3.cell 2 (.slice v.shelves.a v.shelves.n v.shelves.c) rfl) | (go_at_call 172; refine (call_b (all_board_all v.shelves l.shelves _ (h.shelves.below (encR_mono _) hw3)) hD).mono ?_; rintro e w4 ⟨rfl, hb4⟩; have hw4 := below_on hw3 hb4; have BX4 := BX3.lift hb4; have f3 := BX4.cell 3 (.slice v.cakes.a v.cakes.n v.cakes.c) rfl) | (go_at_call 174; refine (call_b (all_cake_all v l v.cakes l.cakes _ (h.cakes.below (encR_mono _) hw4) (h.below hw4)) hE).mono ?_; rintro e w5 ⟨rfl, hb5⟩; have hw5 := below_on hw4 hb5; have BX5 := BX4.lift hb5; have g0 := BX5.cell 0 (.int .i64 v.last) rfl; have g1 := BX5.cell 1 (.slice v.air.a v.air.n v.air.c) rfl; have g2 := BX5.cell 2 (.slice v.shelves.a v.shelves.n v.shelves.c) rfl; have g3 := BX5.cell 3 (.slice v.cakes.a v.cakes.n v.cakes.c) rfl; have g4 := BX5.cell 4 (.slice v.put.a v.put.n v.put.c) rfl; have g5 := BX5.cell 5 (.slice v.weights.a v.weights.n v.weights.c) rfl) | (go_at_call 115; refine (call_b (isPlaceP_any v l v.put l.put _ (h.below hw5) (h.put.below (encR_mono _) hw5) HS3.out HC5.out HRM.out) hF).mono ?_; rintro e w6 ⟨rfl, hb6⟩; have hw6 := below_on hw5 hb6; have BX6 := BX5.lift hb6; have i5 := BX6.cell 5 (.slice v.weights.a v.weights.n v.weights.c) rfl) | (go_at_call 175; refine (call_b (all_weight_all v l v.weights l.weights _ (h.weights.below (encR_mono _) hw6) (h.below hw6)) hG).mono ?_; rintro e w7 ⟨rfl, hb7⟩; have hw7 := below_on hw6 hb7; have BX7 := BX6.lift hb7; have j0 := BX7.cell 0 (.int .i64 v.last) rfl; have j1 := BX7.cell 1 (.slice v.air.a v.air.n v.air.c) rfl; have j2 := BX7.cell 2 (.slice v.shelves.a v.shelves.n v.shelves.c) rfl; have j3 := BX7.cell 3 (.slice v.cakes.a v.cakes.n v.cakes.c) rfl; have j4 := BX7.cell 4 (.slice v.put.a v.put.n v.put.c) rfl; have j5 := BX7.cell 5 (.slice v.weights.a v.weights.n v.weights.c) rfl))
    go_ret
    exact ⟨ret_int (lf_g HA.out HB.out HC.out HD.out HE.out HF.out HG.out), hw7⟩
  have HG := Lib.hid hG
  have HH := lf_h HA.out HB.out HC.out HD.out HE.out HF.out HG.out
  have HH := Lib.hid HH
  have hva := airOk HC.out
  have hvc := cakesOk HE.out
  have hvr : ∀ r ∈ l.ranges, RgOk r := fun r hr => by
    rcases List.mem_append.1 hr with hr | hr
    · exact hva r hr
    · obtain ⟨c, hc, rfl⟩ := List.mem_map.1 hr
      exact hvc c hc
  have HVR := Lib.hid hvr
  clear hva hvc hvr
  have HRL : Hid (l.ranges.length = v.air.n + v.cakes.n) := by show _ = _; rw [LoftD.ranges, List.length_append, List.length_map, HLa.out, HLc.out]
  go_enter Tryz.func148, Tryz.ntmps148
  go_wp2
  obtain ⟨W0, hNW0, BX, hW0, hzW0⟩ := Box.named w (LoftV.cs v) 44
  rw [hNW0]
  clear hNW0
  have c0 := BX.cell 0 (.int .i64 v.last) rfl
  have c1 := BX.cell 1 (.slice v.air.a v.air.n v.air.c) rfl
  have c2 := BX.cell 2 (.slice v.shelves.a v.shelves.n v.shelves.c) rfl
  have c3 := BX.cell 3 (.slice v.cakes.a v.cakes.n v.cakes.c) rfl
  have c4 := BX.cell 4 (.slice v.put.a v.put.n v.put.c) rfl
  have c5 := BX.cell 5 (.slice v.weights.a v.weights.n v.weights.c) rfl
  have zz0 := fun x : After W0 => At.cell c0 x
  have zz1 := fun x : After W0 => At.cell c1 x
  have zz2 := fun x : After W0 => At.cell c2 x
  have zz3 := fun x : After W0 => At.cell c3 x
  have zz4 := fun x : After W0 => At.cell c4 x
  have zz5 := fun x : After W0 => At.cell c5 x
  refine wp_region_after (by kernel_rfl) (by kernel_rfl) ?_
  repeat (go_big_quiet_step ((fail)))
  refine wpQuiet_nil ?_
  intro W2 hbW2
  clear zz0 zz1 zz2 zz3 zz4 zz5
  have d0 := (BX.lift hbW2).cell 0 (.int .i64 v.last) rfl
  have d1 := (BX.lift hbW2).cell 1 (.slice v.air.a v.air.n v.air.c) rfl
  have d2 := (BX.lift hbW2).cell 2 (.slice v.shelves.a v.shelves.n v.shelves.c) rfl
  have d3 := (BX.lift hbW2).cell 3 (.slice v.cakes.a v.cakes.n v.cakes.c) rfl
  have d4 := (BX.lift hbW2).cell 4 (.slice v.put.a v.put.n v.put.c) rfl
  have d5 := (BX.lift hbW2).cell 5 (.slice v.weights.a v.weights.n v.weights.c) rfl
  rw [HVL.out] at d0
  have hw2 := below_on hW0 hbW2
  clear c0 c1 c2 c3 c4 c5
  go_wp2_with (first | (go_at_call 170; refine (call_b (all_rg_all v.air l.air _ (h.air.below (encR_mono _) hw2)) hC).mono ?_; rintro e w3 ⟨rfl, hb3⟩; have hw3 := below_on hw2 hb3; have BX3 := (BX.lift hbW2).lift hb3; have e2 := BX3.cell 2 (.slice v.shelves.a v.shelves.n v.shelves.c) rfl) | (go_at_call 172; refine (call_b (all_board_all v.shelves l.shelves _ (h.shelves.below (encR_mono _) hw3)) hD).mono ?_; rintro e w4 ⟨rfl, hb4⟩; have hw4 := below_on hw3 hb4; have BX4 := BX3.lift hb4; have f3 := BX4.cell 3 (.slice v.cakes.a v.cakes.n v.cakes.c) rfl) | (go_at_call 174; refine (call_b (all_cake_all v l v.cakes l.cakes _ (h.cakes.below (encR_mono _) hw4) (h.below hw4)) hE).mono ?_; rintro e w5 ⟨rfl, hb5⟩; have hw5 := below_on hw4 hb5; have BX5 := BX4.lift hb5; have g0 := BX5.cell 0 (.int .i64 v.last) rfl; have g1 := BX5.cell 1 (.slice v.air.a v.air.n v.air.c) rfl; have g2 := BX5.cell 2 (.slice v.shelves.a v.shelves.n v.shelves.c) rfl; have g3 := BX5.cell 3 (.slice v.cakes.a v.cakes.n v.cakes.c) rfl; have g4 := BX5.cell 4 (.slice v.put.a v.put.n v.put.c) rfl; have g5 := BX5.cell 5 (.slice v.weights.a v.weights.n v.weights.c) rfl) | (go_at_call 115; refine (call_b (isPlaceP_any v l v.put l.put _ (h.below hw5) (h.put.below (encR_mono _) hw5) HS3.out HC5.out HRM.out) hF).mono ?_; rintro e w6 ⟨rfl, hb6⟩; have hw6 := below_on hw5 hb6; have BX6 := BX5.lift hb6; have i5 := BX6.cell 5 (.slice v.weights.a v.weights.n v.weights.c) rfl) | (go_at_call 175; refine (call_b (all_weight_all v l v.weights l.weights _ (h.weights.below (encR_mono _) hw6) (h.below hw6)) hG).mono ?_; rintro e w7 ⟨rfl, hb7⟩; have hw7 := below_on hw6 hb7; have BX7 := BX6.lift hb7; have j0 := BX7.cell 0 (.int .i64 v.last) rfl; have j1 := BX7.cell 1 (.slice v.air.a v.air.n v.air.c) rfl; have j2 := BX7.cell 2 (.slice v.shelves.a v.shelves.n v.shelves.c) rfl; have j3 := BX7.cell 3 (.slice v.cakes.a v.cakes.n v.cakes.c) rfl; have j4 := BX7.cell 4 (.slice v.put.a v.put.n v.put.c) rfl; have j5 := BX7.cell 5 (.slice v.weights.a v.weights.n v.weights.c) rfl) | (go_at_call 176; refine (ranges_any v l _ (h.below hw7) HC6.out HC5.out).mono ?_; rintro e w8 ⟨s, rfl, hfr, hb8⟩))
  clear d0 d1 d2 d3 d4 d5 e2 f3 g0 g1 g2 g3 g4 g5 i5 j0 j1 j2 j3 j4 j5 hC hD hE hF hG
  obtain ⟨sa, sn, sc⟩ := s
  have hw8 := below_on hw7 hb8
  have hsn : l.ranges.length = sn := hfr.now.len
  have HSN := Lib.hid hsn
  rw [HRL.out] at hsn
  have hs11 : sn ≤ 11 := by omega
  clear hsn
  go_loopw [5, 82] (fun r i wr => ∃ k : Nat, ∃ z : Int, k ≤ sn ∧ i = .int .i64 k ∧ r = .int .i64 z ∧ 1 ≤ z ∧ z ≤ 2001 ∧ Hid (z = ((l.ranges.take k).map Rg.size).foldl minStep 1) ∧ Below w8.heap.size w8 wr) (fun _ i _ => sn - (intOf i).toNat)
  case atStart => exact ⟨0, 1, Nat.zero_le _, rfl, rfl, by omega, by omega, by simp [Hid], Below.refl _ _⟩
  case round =>
    obtain ⟨k, z, hk, rfl, rfl, hz1, hz2, hq, hb⟩ := hrel
    by_cases hlt : k < sn
    · obtain ⟨x, hx⟩ := at_of_lt HSN.out hlt
      obtain ⟨b, o, ha, hbl, hc1, hc2⟩ := (hfr.below hb).now.rg_at hx
      have HX := Lib.hid hx
      simp only at ha
      subst ha
      clear hx
      have hok := HVR.out x (List.mem_of_getElem? HX.out)
      have hsz := hok.size_pos
      unfold RgOk at hok
      have hm := mul_bounds ⟨hz1, by omega⟩ hsz
      unfold Rg.size at hsz hm
      go_wp2_with (first | (go_at_call 178; refine (size_any _ _ _ (by omega) (by omega) (by omega)).mono ?_; rintro e w9 ⟨rfl, hb9⟩) | (go_at_call 177; refine (minimum_any w9.heap.size 0 2 _ _ _ ((Box.new w9 _ 3).cell 0 _ rfl) ((Box.new w9 _ 3).cell 1 _ rfl)).mono ?_; rintro e w10 ⟨rfl, rfl⟩))
      go_roundw
      case measure => simp [intOf]; omega
      case rel =>
        refine ⟨k + 1, minStep z x.size, by omega, by go_num, rfl, ?_, ?_, ?_, ?_⟩
        · unfold minStep Rg.size; omega
        · unfold minStep Rg.size; omega
        · have hq' : z = _ := hq
          show minStep z x.size = _
          rw [List.map_take, take_foldl _ _ (x := x.size) (by simp [HX.out]), hq', List.map_take]
        · exact below_on (below_on (below_on hb (below_box _ _)) hb9) (below_box _ _)
    · obtain rfl : sn = k := by omega
      have HQ : Hid (z = min (capMul 3000 l.sizes) 2001) := by
        have h1 : z = _ := hq
        rw [take_len HSN.out, lranges_sizes] at h1
        show z = _
        rw [h1]
        refine minFold_cap _ 1 1 (by omega) (by omega) (by omega) fun s hs => ?_
        rw [← lranges_sizes] at hs
        obtain ⟨r, hr, rfl⟩ := List.mem_map.1 hs
        exact (HVR.out r hr).size_pos.1
      clear hq
      go_wp2
      · go_ret
        exact ⟨ret_int (by rw [HH.out, if_pos (by have := HQ.out; omega)]), below_on hw8 hb⟩
      · go_ret
        exact ⟨ret_int (by rw [HH.out, if_neg (by have := HQ.out; omega)]), below_on hw8 hb⟩
end Go.Proofs.YtenfnakhijobkaaGreat
