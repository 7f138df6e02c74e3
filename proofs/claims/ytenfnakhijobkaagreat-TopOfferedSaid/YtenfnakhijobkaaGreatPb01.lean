/- The plain words: lofts, markets, what is valid, what is left of water, sure days. Conditions: none. The plain words of markets: what is valid, prices, truths. Conditions: none. The plain words of prices: valid markets, prices, truths of a market. Conditions: none. What a slice reads as, in a world; what lies below a block number stays as it was. Conditions: none. How lofts and markets lie in memory. Conditions: none. Rows that a call makes, whose elements lead to further memory: what they read as, whatever is written elsewhere. Conditions: none. The reference's small functions of layer 6, and its placements. Conditions: the lists read as they do. The reference's water that is left. Conditions: the loft reads as it does and has no fault; the truth's numbers are in its ranges. -/
import Derived.Test.YtenfnakhijobkaaGreatRows
import Derived.WalkKit
import Derived.ProofKit
import Derived.OpenShut
import Derived.BigQuiet
import Derived.Deep.QuietTactic
import Derived.Outline
import Derived.Below
import Derived.LoopTactic
import Derived.Lib.Hide
import Derived.Laws.Rows
import Derived.OwnWalk
import Derived.Laws.OwnMore
import Derived.Laws.MakeOwn
import Derived.RangeFuncRecord
import Derived.Deep.DeepCutAuto
import Derived.WalkSpells
import Derived.Deep.AppendLies
import Derived.Test.YtenfnakhijobkaaGreatWLast
set_option linter.unusedVariables false
set_option linter.unusedSimpArgs false
namespace Go.Proofs.YtenfnakhijobkaaGreat

structure Rg where
  lo : Int
  hi : Int
  deriving DecidableEq
structure BoardD where
  room : Int
  draft : Int
  deriving DecidableEq
structure CakeD where
  come : Int
  water : Rg
  keep : Int
  deriving DecidableEq
structure WeightD where
  cake : Int
  day : Int
  water : Rg
  deriving DecidableEq
structure LoftD where
  last : Int
  air : List Rg
  shelves : List BoardD
  cakes : List CakeD
  put : List Int
  weights : List WeightD
  deriving DecidableEq
structure SaleD where
  day : Int
  price : Rg
  deriving DecidableEq
structure ChestD where
  cakes : List Int
  reserve : Int
  deriving DecidableEq
structure NoteD where
  sale : Int
  price : Rg
  deriving DecidableEq
structure MktD where
  loft : LoftD
  sales : List SaleD
  chests : List ChestD
  step : Int
  lots : Int
  notes : List NoteD
  deriving DecidableEq

def inB (n lo hi : Int) : Bool := decide (lo ≤ n) && decide (n ≤ hi)
theorem inB_iff {n lo hi : Int} : inB n lo hi = true ↔ lo ≤ n ∧ n ≤ hi := by simp [inB]
def Rg.has (r : Rg) (n : Int) : Bool := inB n r.lo r.hi
def Rg.upTo (r : Rg) (most : Int) : Bool := decide (0 ≤ r.lo) && decide (r.lo ≤ r.hi) && decide (r.hi ≤ most)
theorem Rg.upTo_iff {r : Rg} {most : Int} : r.upTo most = true ↔ 0 ≤ r.lo ∧ r.lo ≤ r.hi ∧ r.hi ≤ most := by simp [Rg.upTo, and_assoc]
def Rg.size (r : Rg) : Int := r.hi - r.lo + 1
def BoardD.ok (b : BoardD) : Bool := inB b.room 0 5 && inB b.draft 0 4
def LoftD.cakeOk (l : LoftD) (c : CakeD) : Bool := inB c.come 0 l.last && c.water.upTo 40 && inB c.keep 1 6
def LoftD.is (l : LoftD) (k : Int) : Bool := inB k 0 (l.cakes.length - 1)
/-- The element of a list by an Int. -/
def gI {α : Type} (xs : List α) (i : Int) : Option α := if 0 ≤ i then xs[i.toNat]? else none
def LoftD.come (l : LoftD) (k : Int) : Int := match gI l.cakes k with
  | some c => c.come
  | none => 0
def LoftD.weightOk (l : LoftD) (w : WeightD) : Bool := l.is w.cake && inB w.day (l.come w.cake) l.last && w.water.upTo 40
/-- How many of a list are equal to one. -/
def cnt (xs : List Int) (s : Int) : Int := (xs.filter (· == s)).length
def roomOf (l : LoftD) (s : Int) : Int := match gI l.shelves s with
  | some b => b.room
  | none => 0
def placeOk (l : LoftD) (place : List Int) (s : Int) : Bool := inB s 0 (l.shelves.length - 1) && decide (cnt place s ≤ roomOf l s)
def isPlace (l : LoftD) (place : List Int) : Bool := decide (place.length = l.cakes.length) && place.all (placeOk l place)
theorem cnt_take {xs : List Int} {k : Nat} {x : Int} (s : Int) (h : xs[k]? = some x) : cnt (xs.take (k + 1)) s = cnt (xs.take k) s + if x = s then 1 else 0 := by
  unfold cnt
  rw [List.take_add_one, h, List.filter_append]
  by_cases e : x = s <;> simp [e]
theorem cnt_nonneg (xs : List Int) (s : Int) : 0 ≤ cnt xs s := by unfold cnt; omega
theorem cnt_le (xs : List Int) (s : Int) : cnt xs s ≤ xs.length := by unfold cnt; have := List.length_filter_le (fun z => z == s) xs; omega
theorem gI_nat {α : Type} {xs : List α} {k : Nat} : gI xs (k : Int) = xs[k]? := by simp [gI]
def LoftD.sizes (l : LoftD) : List Int := l.air.map Rg.size ++ l.cakes.map fun c => c.water.size
def capStep (cap n s : Int) : Int := if n * s < cap then n * s else cap
def capMul (cap : Int) (ss : List Int) : Int := ss.foldl (capStep cap) 1
theorem capStep_pos {cap n s : Int} (hc : 1 ≤ cap) (hn : 1 ≤ n) (hs : 1 ≤ s) : 1 ≤ capStep cap n s ∧ capStep cap n s ≤ cap := by
  unfold capStep
  have : 1 * 1 ≤ n * s := Int.mul_le_mul hn hs (by omega) (by omega)
  split <;> omega
theorem capFold_pos {cap : Int} (hc : 1 ≤ cap) : ∀ (ss : List Int) (n : Int), 1 ≤ n → n ≤ cap → (∀ s ∈ ss, 1 ≤ s) → 1 ≤ ss.foldl (capStep cap) n ∧ ss.foldl (capStep cap) n ≤ cap
  | [], n, h, h', _ => ⟨h, h'⟩
  | s :: ss, n, h, _, hs => by
    have h1 := capStep_pos hc h (hs s (by simp))
    exact capFold_pos hc ss _ h1.1 h1.2 fun s' hs' => hs s' (by simp [hs'])
def loftFault (l : LoftD) : Int :=
  if l.last > 5 ∨ l.shelves.length > 3 ∨ l.cakes.length > 5 ∨ l.weights.length > 5 then 3
  else if l.last < 0 ∨ (l.air.length : Int) ≠ l.last + 1 then 1
  else if (l.air.all (·.upTo 9)) = false then 1
  else if (l.shelves.all (·.ok)) = false then 1
  else if (l.cakes.all l.cakeOk) = false then 1
  else if isPlace l l.put = false then 1
  else if (l.weights.all l.weightOk) = false then 1
  else if capMul 3000 l.sizes > 2000 then 3
  else 0
end Go.Proofs.YtenfnakhijobkaaGreat
namespace Go.Proofs.YtenfnakhijobkaaGreat
/-! ### Water that is left -/
structure TruthD where
  air : List Int
  water : List Int
  deriving DecidableEq
/-- What is left of so much water behind n days, from the day come on. -/
def leftN (water draft : Int) (air : List Int) (come : Nat) : Nat → Int
  | 0 => water
  | n + 1 => max 0 (leftN water draft air come n - air.getD (come + n) 0 - draft)
theorem leftN_bd {water draft : Int} {air : List Int} {come : Nat} (hw : 0 ≤ water ∧ water ≤ 40) (hd : 0 ≤ draft ∧ draft ≤ 4) (ha : ∀ a ∈ air, 0 ≤ a ∧ a ≤ 9) : ∀ n, 0 ≤ leftN water draft air come n ∧ leftN water draft air come n ≤ 40
  | 0 => hw
  | n + 1 => by
    have h := leftN_bd (come := come) hw hd ha n
    have h2 : 0 ≤ air.getD (come + n) 0 := by
      rw [List.getD_eq_getElem?_getD]
      cases h3 : air[come + n]? with
      | none => simp
      | some a => simpa using (ha a (List.mem_of_getElem? h3)).1
    unfold leftN
    omega
/-- A truth whose numbers are as a loft's ranges allow. -/
structure TOk (l : LoftD) (t : TruthD) : Prop where
  na : t.air.length = l.air.length
  nw : t.water.length = l.cakes.length
  air : ∀ a ∈ t.air, 0 ≤ a ∧ a ≤ 9
  water : ∀ a ∈ t.water, 0 ≤ a ∧ a ≤ 40
/-- A loft without a fault. -/
structure LOk (l : LoftD) : Prop where
  last0 : 0 ≤ l.last
  last5 : l.last ≤ 5
  air : (l.air.length : Int) = l.last + 1
  airs : ∀ r ∈ l.air, 0 ≤ r.lo ∧ r.lo ≤ r.hi ∧ r.hi ≤ 9
  shelves3 : l.shelves.length ≤ 3
  shelves : ∀ b ∈ l.shelves, 0 ≤ b.room ∧ b.room ≤ 5 ∧ 0 ≤ b.draft ∧ b.draft ≤ 4
  cakes5 : l.cakes.length ≤ 5
  cakes : ∀ c ∈ l.cakes, 0 ≤ c.come ∧ c.come ≤ l.last ∧ 0 ≤ c.water.lo ∧ c.water.lo ≤ c.water.hi ∧ c.water.hi ≤ 40 ∧ 1 ≤ c.keep ∧ c.keep ≤ 6
  put : isPlace l l.put = true
  weights5 : l.weights.length ≤ 5
  weights : ∀ x ∈ l.weights, l.weightOk x = true
  many : capMul 3000 l.sizes ≤ 2000
theorem LOk.of {l : LoftD} (h : loftFault l = 0) : LOk l := by
  unfold loftFault at h
  by_cases h1 : l.last > 5 ∨ l.shelves.length > 3 ∨ l.cakes.length > 5 ∨ l.weights.length > 5
  · rw [if_pos h1] at h; cases h
  rw [if_neg h1] at h
  by_cases h2 : l.last < 0 ∨ (l.air.length : Int) ≠ l.last + 1
  · rw [if_pos h2] at h; cases h
  rw [if_neg h2] at h
  have h2e : (l.air.length : Int) = l.last + 1 := Decidable.not_not.1 (not_or.1 h2).2
  cases h3 : l.air.all (·.upTo 9) with
  | false => rw [if_pos h3] at h; cases h
  | true =>
  rw [if_neg (by simp [h3])] at h
  cases h4 : l.shelves.all (·.ok) with
  | false => rw [if_pos h4] at h; cases h
  | true =>
  rw [if_neg (by simp [h4])] at h
  cases h5 : l.cakes.all l.cakeOk with
  | false => rw [if_pos h5] at h; cases h
  | true =>
  rw [if_neg (by simp [h5])] at h
  cases h6 : isPlace l l.put with
  | false => rw [if_pos h6] at h; cases h
  | true =>
  rw [if_neg (by simp [h6])] at h
  cases h7 : l.weights.all l.weightOk with
  | false => rw [if_pos h7] at h; cases h
  | true =>
  rw [if_neg (by simp [h7])] at h
  have h8 : capMul 3000 l.sizes ≤ 2000 := by
    by_cases h8 : capMul 3000 l.sizes > 2000
    · rw [if_pos h8] at h; cases h
    · omega
  refine ⟨by omega, by omega, h2e, fun r hr => ?_, by omega, fun b hb => ?_, by omega, fun c hc => ?_, h6, by omega, fun x hx => List.all_eq_true.1 h7 x hx, h8⟩
  · exact Rg.upTo_iff.1 (List.all_eq_true.1 h3 r hr)
  · have := List.all_eq_true.1 h4 b hb
    simp only [BoardD.ok, Bool.and_eq_true, inB_iff] at this
    omega
  · have := List.all_eq_true.1 h5 c hc
    simp only [LoftD.cakeOk, Bool.and_eq_true, inB_iff, Rg.upTo_iff] at this
    omega
end Go.Proofs.YtenfnakhijobkaaGreat
namespace Go.Proofs.YtenfnakhijobkaaGreat
/-! ### Bits -/
def bitsN : List Bool → Nat
  | [] => 0
  | b :: bs => (if b then 1 else 0) + 2 * bitsN bs
theorem bitsN_lt : ∀ bs : List Bool, bitsN bs < 2 ^ bs.length
  | [] => by simp [bitsN]
  | b :: bs => by
    have := bitsN_lt bs
    simp only [bitsN, List.length_cons, Nat.pow_succ]
    split <;> omega
theorem bitsN_snoc : ∀ (bs : List Bool) (b : Bool), bitsN (bs ++ [b]) = bitsN bs + if b then 2 ^ bs.length else 0
  | [], b => by simp [bitsN]
  | c :: bs, b => by
    have := bitsN_snoc bs b
    simp only [bitsN, List.cons_append, List.length_cons, Nat.pow_succ, this]
    cases b <;> simp <;> omega
theorem bitsN_bit : ∀ (bs : List Bool) (i : Nat), (bitsN bs).testBit i = bs[i]?.getD false
  | [], i => by simp [bitsN]
  | b :: bs, 0 => by
    simp only [bitsN, Nat.testBit_zero]
    cases b <;> simp <;> omega
  | b :: bs, i + 1 => by
    have := bitsN_bit bs i
    have h2 : ((if b = true then 1 else 0) + 2 * bitsN bs) / 2 = bitsN bs := by split <;> omega
    simp only [bitsN, Nat.testBit_succ, h2, this, List.getElem?_cons_succ]
theorem bitsN_or {a k : Nat} (h : a < 2 ^ k) : a ||| 2 ^ k = a + 2 ^ k := by
  have := Nat.two_pow_add_eq_or_of_lt h 1
  rw [Nat.or_comm, Nat.add_comm, ← Nat.mul_one (2 ^ k)]
  exact this.symm
theorem take_map_snoc {α : Type} {xs : List α} {k : Nat} {x : α} (p : α → Bool) (h : xs[k]? = some x) : (xs.take (k + 1)).map p = (xs.take k).map p ++ [p x] := by
  rw [List.take_add_one, h]; simp
theorem bitsN_full : ∀ bs : List Bool, bs.all id = true → bitsN bs = 2 ^ bs.length - 1
  | [], _ => by simp [bitsN]
  | b :: bs, h => by
    simp only [List.all_cons, id, Bool.and_eq_true] at h
    have := bitsN_full bs h.2
    have hp : 0 < 2 ^ bs.length := Nat.pow_pos (by omega)
    simp only [bitsN, List.length_cons, Nat.pow_succ, h.1, this]
    simp; omega
theorem bitsN_full_iff : ∀ bs : List Bool, bitsN bs = 2 ^ bs.length - 1 ↔ bs.all id = true
  | [] => by simp [bitsN]
  | b :: bs => by
    have ih := bitsN_full_iff bs
    have hp : 0 < 2 ^ bs.length := Nat.pow_pos (by omega)
    have hl := bitsN_lt bs
    simp only [bitsN, List.length_cons, Nat.pow_succ, List.all_cons, id, Bool.and_eq_true, ← ih]
    cases b <;> simp <;> omega
/-- The water that is left in a cake on a shelf behind a day (an index); 0 where nothing is. -/
def leftAt (l : LoftD) (t : TruthD) (s k : Int) (day : Int) : Int :=
  leftN ((gI t.water k).getD 0) (match gI l.shelves s with | some b => b.draft | none => 0) t.air (l.come k).toNat (day + 1 - l.come k).toNat
def putOf (l : LoftD) (k : Int) : Int := (gI l.put k).getD 0
def wRight (l : LoftD) (t : TruthD) (x : WeightD) : Bool := x.water.has (leftAt l t (putOf l x.cake) x.cake x.day)
/-- What a valid weight leads to. -/
structure WOk (l : LoftD) (t : TruthD) (x : WeightD) (kn sn dn n : Nat) (ck : CakeD) (bd : BoardD) (water : Int) (come : Nat) : Prop where
  cake : x.cake = kn
  hck : l.cakes[kn]? = some ck
  put : l.put[kn]? = some (sn : Int)
  hbd : l.shelves[sn]? = some bd
  hwater : t.water[kn]? = some water
  hcome : ck.come = come
  day : x.day = dn
  hn : dn + 1 = come + n
  fits : come + n ≤ l.air.length
  right : wRight l t x = inB (leftN water bd.draft t.air come n) x.water.lo x.water.hi
theorem LOk.putLen {l : LoftD} (hl : LOk l) : l.put.length = l.cakes.length := by
  have := hl.put
  simp only [isPlace, Bool.and_eq_true, decide_eq_true_eq] at this
  exact this.1
theorem place_at {l : LoftD} {p : List Int} (hp : isPlace l p = true) {k : Nat} (hk : k < l.cakes.length) : ∃ (s : Nat) (b : BoardD), p[k]? = some (s : Int) ∧ l.shelves[s]? = some b := by
  simp only [isPlace, Bool.and_eq_true, decide_eq_true_eq] at hp
  have hlt : k < p.length := by omega
  have h1 := List.all_eq_true.1 hp.2 p[k] (List.getElem_mem hlt)
  simp only [placeOk, Bool.and_eq_true, inB_iff] at h1
  obtain ⟨s, hs⟩ := Int.eq_ofNat_of_zero_le h1.1.1
  have hsl : s < l.shelves.length := by omega
  exact ⟨s, l.shelves[s], by rw [List.getElem?_eq_getElem hlt, hs], List.getElem?_eq_getElem hsl⟩
theorem LOk.wOk {l : LoftD} {t : TruthD} (hl : LOk l) (ht : TOk l t) {x : WeightD} (hx : x ∈ l.weights) : ∃ kn sn dn n ck bd water come, WOk l t x kn sn dn n ck bd water come := by
  have h := hl.weights x hx
  simp only [LoftD.weightOk, LoftD.is, Bool.and_eq_true, inB_iff] at h
  obtain ⟨⟨⟨h1, h2⟩, h3, h4⟩, h5⟩ := h
  obtain ⟨kn, hkn⟩ := Int.eq_ofNat_of_zero_le h1
  have hlt : kn < l.cakes.length := by omega
  obtain ⟨s, b, hs, hb⟩ := place_at hl.put hlt
  have hck : l.cakes[kn]? = some l.cakes[kn] := List.getElem?_eq_getElem hlt
  have hcome : l.come x.cake = l.cakes[kn].come := by rw [hkn]; simp only [LoftD.come, gI_nat, hck]
  have hc0 := (hl.cakes l.cakes[kn] (List.getElem_mem hlt)).1
  obtain ⟨cm, hcm⟩ := Int.eq_ofNat_of_zero_le hc0
  obtain ⟨dn, hdn⟩ := Int.eq_ofNat_of_zero_le (show 0 ≤ x.day by omega)
  have hwl : kn < t.water.length := by rw [ht.nw]; exact hlt
  have hair := hl.air
  refine ⟨kn, s, dn, dn + 1 - cm, l.cakes[kn], b, t.water[kn], cm, hkn, hck, hs, hb, List.getElem?_eq_getElem hwl, hcm, hdn, by omega, by omega, ?_⟩
  have e1 : (gI t.water (kn : Int)).getD 0 = t.water[kn] := by rw [gI_nat, List.getElem?_eq_getElem hwl]; rfl
  have e2 : putOf l (kn : Int) = (s : Int) := by rw [putOf, gI_nat, hs]; rfl
  have e3 : l.come (kn : Int) = (cm : Int) := by rw [← hkn, hcome, hcm]
  simp only [wRight, Rg.has, leftAt, hkn, e1, e2, e3, gI_nat, hb, hdn]
  congr 2
  omega
/-! ### The truth with a number -/
def nthStep (a : List Int × Nat) (r : Rg) : List Int × Nat := (a.1 ++ [r.lo + ((a.2 % r.size.toNat : Nat) : Int)], a.2 / r.size.toNat)
def nthF (rs : List Rg) (n : Nat) : List Int × Nat := rs.foldl nthStep ([], n)
theorem nthF_len : ∀ (rs : List Rg) (a : List Int × Nat), (rs.foldl nthStep a).1.length = a.1.length + rs.length
  | [], a => by simp
  | r :: rs, a => by rw [List.foldl_cons, nthF_len rs]; simp [nthStep]; omega
theorem nthF_le : ∀ (rs : List Rg) (a : List Int × Nat), (rs.foldl nthStep a).2 ≤ a.2
  | [], a => by simp
  | r :: rs, a => by rw [List.foldl_cons]; exact Nat.le_trans (nthF_le rs _) (Nat.div_le_self _ _)
def nthT (l : LoftD) (n : Nat) : TruthD := ⟨(nthF l.air n).1, (nthF (l.cakes.map (·.water)) (nthF l.air n).2).1⟩
def tOk (l : LoftD) (t : TruthD) : Bool := l.weights.all (wRight l t)
def tsR (l : LoftD) (n : Nat) : List TruthD := ((List.range n).map (nthT l)).filter (tOk l)
theorem tsR_succ (l : LoftD) (n : Nat) : tsR l (n + 1) = tsR l n ++ if tOk l (nthT l n) then [nthT l n] else [] := by
  unfold tsR
  rw [List.range_succ, List.map_append, List.filter_append]
  by_cases h : tOk l (nthT l n) = true <;> simp [h]
def truthsR (l : LoftD) : List TruthD := tsR l (capMul 3000 l.sizes).toNat
theorem nthF_bd {most : Int} : ∀ (rs : List Rg) (a : List Int × Nat), (∀ r ∈ rs, 0 ≤ r.lo ∧ r.lo ≤ r.hi ∧ r.hi ≤ most) → (∀ x ∈ a.1, 0 ≤ x ∧ x ≤ most) → ∀ x ∈ (rs.foldl nthStep a).1, 0 ≤ x ∧ x ≤ most
  | [], a, _, ha => ha
  | r :: rs, a, hr, ha => by
    rw [List.foldl_cons]
    refine nthF_bd rs _ (fun q hq => hr q (by simp [hq])) (fun x hx => ?_)
    have h1 := hr r (by simp)
    simp only [nthStep, List.mem_append, List.mem_singleton] at hx
    rcases hx with hx | hx
    · exact ha x hx
    · have h2 : 0 < r.size.toNat := by unfold Rg.size; omega
      have h3 := Nat.mod_lt a.2 h2
      have h4 : (r.size.toNat : Int) = r.hi - r.lo + 1 := by unfold Rg.size; omega
      omega
theorem nthT_ok {l : LoftD} (hl : LOk l) (n : Nat) : TOk l (nthT l n) := by
  refine ⟨?_, ?_, ?_, ?_⟩
  · simp [nthT, nthF, nthF_len]
  · simp [nthT, nthF, nthF_len]
  · exact nthF_bd l.air ([], n) hl.airs (fun _ h => by cases h)
  · refine nthF_bd (l.cakes.map (·.water)) ([], (nthF l.air n).2) (fun r hr => ?_) (fun _ h => by cases h)
    obtain ⟨c, hc, rfl⟩ := List.mem_map.1 hr
    have := hl.cakes c hc
    exact ⟨this.2.2.1, this.2.2.2.1, this.2.2.2.2.1⟩
theorem capMul_pos {l : LoftD} (hl : LOk l) : 1 ≤ capMul 3000 l.sizes ∧ capMul 3000 l.sizes ≤ 3000 := by
  refine capFold_pos (by omega) _ _ (by omega) (by omega) (fun s hs => ?_)
  unfold LoftD.sizes at hs
  rcases List.mem_append.1 hs with hs | hs
  · obtain ⟨r, hr, rfl⟩ := List.mem_map.1 hs
    have := hl.airs r hr
    unfold Rg.size; omega
  · obtain ⟨c, hc, rfl⟩ := List.mem_map.1 hs
    have := hl.cakes c hc
    unfold Rg.size; omega
theorem full_iff (l : LoftD) (t : TruthD) : bitsN (l.weights.map (wRight l t)) = 2 ^ l.weights.length - 1 ↔ tOk l t = true := by
  have := bitsN_full_iff (l.weights.map (wRight l t))
  rw [List.length_map] at this
  rw [this, tOk, List.all_map]; rfl
theorem tsR_len (l : LoftD) (n : Nat) : (tsR l n).length ≤ n := by
  unfold tsR
  exact Nat.le_trans (List.length_filter_le _ _) (by simp)
end Go.Proofs.YtenfnakhijobkaaGreat
namespace Go.Proofs.YtenfnakhijobkaaGreat

/-- An increasing list of numbers from 0 to n - 1: its last one (-1 if it is empty); none if it is no such list. -/
def cakeStep (n : Int) (a : Option Int) (x : Int) : Option Int := a.bind fun last => if inB x (last + 1) (n - 1) then some x else none
def cakesLast (n : Int) (l : List Int) : Option Int := l.foldl (cakeStep n) (some (-1))
def areCakes (n : Int) (l : List Int) : Bool := match cakesLast n l with
  | some last => decide (0 ≤ last)
  | none => false
def saleStep (a : Option Int) (s : SaleD) : Option Int := a.bind fun last => if inB s.day (last + 1) 9 && s.price.upTo 20 then some s.day else none
def salesLast (l : List SaleD) : Option Int := l.foldl saleStep (some (-1))
def salesOk (l : List SaleD) : Bool := (salesLast l).isSome
def chestOk (n : Int) (c : ChestD) : Bool := areCakes n c.cakes && inB c.reserve 0 20
def apart (cs : List ChestD) : Prop := cs.Pairwise fun a b => ∀ c ∈ b.cakes, c ∉ a.cakes
instance (cs : List ChestD) : Decidable (apart cs) := by unfold apart; infer_instance
def noteOk (n : Int) (x : NoteD) : Bool := inB x.sale 0 (n - 1) && x.price.upTo 20
def MktD.sizes (m : MktD) : List Int := m.sales.map fun s => s.price.size
def mktArgs (m : MktD) : Bool :=
  inB m.step 0 20 && inB m.lots 0 4 && salesOk m.sales && m.chests.all (chestOk m.loft.cakes.length) && decide (apart m.chests) && m.notes.all (noteOk m.sales.length)
def mktFault (m : MktD) : Int :=
  if loftFault m.loft ≠ 0 then loftFault m.loft
  else if (truthsR m.loft).isEmpty = true then 11
  else if m.sales.length > 4 ∨ m.chests.length > 4 ∨ m.notes.length > 5 then 3
  else if mktArgs m = false then 1
  else if capMul 3000 m.sizes > 2000 then 3
  else 0

theorem foldl_none {α : Type} (f : Option Int → α → Option Int) (hf : ∀ x, f none x = none) : ∀ l : List α, l.foldl f none = none
  | [] => rfl
  | x :: l => by rw [List.foldl_cons, hf, foldl_none f hf l]
theorem fold_none_of_take {α : Type} {f : Option Int → α → Option Int} (hf : ∀ x, f none x = none) {a : Option Int} {l : List α} {k : Nat} (h : (l.take k).foldl f a = none) : l.foldl f a = none := by
  rw [← List.take_append_drop k l, List.foldl_append, h, foldl_none f hf]
theorem cakesLast_none {n : Int} {l : List Int} {k : Nat} (h : cakesLast n (l.take k) = none) : areCakes n l = false := by
  have : cakesLast n l = none := fold_none_of_take (f := cakeStep n) (fun _ => rfl) h
  rw [areCakes, this]
theorem salesLast_none {l : List SaleD} {k : Nat} (h : salesLast (l.take k) = none) : salesOk l = false := by
  have : salesLast l = none := fold_none_of_take (f := saleStep) (fun _ => rfl) h
  rw [salesOk, this]; rfl
theorem cakesLast_at {n : Int} {l : List Int} {k : Nat} {x : Int} (hx : l[k]? = some x) : cakesLast n (l.take (k + 1)) = cakeStep n (cakesLast n (l.take k)) x := by
  unfold cakesLast; rw [List.take_add_one, hx]; simp
theorem salesLast_at {l : List SaleD} {k : Nat} {x : SaleD} (hx : l[k]? = some x) : salesLast (l.take (k + 1)) = saleStep (salesLast (l.take k)) x := by
  unfold salesLast; rw [List.take_add_one, hx]; simp
/-- The last one is the one before. -/
def cLast (l : List Int) (k : Nat) : Int := match k with
  | 0 => -1
  | j + 1 => l[j]?.getD 0
def sLast (l : List SaleD) (k : Nat) : Int := match k with
  | 0 => -1
  | j + 1 => (l[j]?.map (·.day)).getD 0
theorem cakesLast_eq {n : Int} {l : List Int} : ∀ {k : Nat}, k ≤ l.length → cakesLast n (l.take k) ≠ none → cakesLast n (l.take k) = some (cLast l k)
  | 0, _, _ => by simp [cakesLast, cLast]
  | k + 1, hk, h => by
    have hx : l[k]? = some l[k] := List.getElem?_eq_getElem (by omega)
    rw [cakesLast_at hx] at h ⊢
    cases h2 : cakesLast n (l.take k) with
    | none => rw [h2] at h; exact absurd rfl h
    | some last =>
      rw [h2] at h
      simp only [cakeStep, Option.bind_some] at h ⊢
      split
      · simp [cLast, hx]
      · simp_all
theorem salesLast_eq {l : List SaleD} : ∀ {k : Nat}, k ≤ l.length → salesLast (l.take k) ≠ none → salesLast (l.take k) = some (sLast l k)
  | 0, _, _ => by simp [salesLast, sLast]
  | k + 1, hk, h => by
    have hx : l[k]? = some l[k] := List.getElem?_eq_getElem (by omega)
    rw [salesLast_at hx] at h ⊢
    cases h2 : salesLast (l.take k) with
    | none => rw [h2] at h; exact absurd rfl h
    | some last =>
      rw [h2] at h
      simp only [saleStep, Option.bind_some] at h ⊢
      split
      · simp [sLast, hx]
      · simp_all
theorem cLast_ge {n : Int} {l : List Int} {k : Nat} {last : Int} (h : cakesLast n (l.take k) = some last) : -1 ≤ last ∧ (k ≤ l.length → 0 < k → 0 ≤ last) := by
  induction k generalizing last with
  | zero => simp [cakesLast] at h; omega
  | succ k ih =>
    cases hx : l[k]? with
    | none =>
      have : l.length ≤ k := List.getElem?_eq_none_iff.1 hx
      rw [List.take_of_length_le (by omega), ← List.take_of_length_le (i := k) (l := l) (by omega)] at h
      exact ⟨(ih h).1, fun h1 => by omega⟩
    | some x =>
      rw [cakesLast_at hx] at h
      cases h2 : cakesLast n (l.take k) with
      | none => rw [h2] at h; simp [cakeStep] at h
      | some q =>
        rw [h2] at h
        have := ih h2
        simp only [cakeStep, Option.bind_some] at h
        split at h
        · rename_i h3
          rw [inB_iff] at h3
          simp at h
          omega
        · cases h
theorem sLast_ge {l : List SaleD} {k : Nat} {last : Int} (h : salesLast (l.take k) = some last) : -1 ≤ last ∧ last ≤ 9 := by
  induction k generalizing last with
  | zero => simp [salesLast] at h; omega
  | succ k ih =>
    cases hx : l[k]? with
    | none =>
      have : l.length ≤ k := List.getElem?_eq_none_iff.1 hx
      rw [List.take_of_length_le (by omega), ← List.take_of_length_le (i := k) (l := l) (by omega)] at h
      exact ih h
    | some x =>
      rw [salesLast_at hx] at h
      cases h2 : salesLast (l.take k) with
      | none => rw [h2] at h; simp [saleStep] at h
      | some q =>
        rw [h2] at h
        have := ih h2
        simp only [saleStep, Option.bind_some] at h
        split at h
        · rename_i h3
          rw [Bool.and_eq_true, inB_iff] at h3
          simp at h
          omega
        · cases h
end Go.Proofs.YtenfnakhijobkaaGreat
namespace Go.Proofs.YtenfnakhijobkaaGreat

def PrOk (r : Rg) : Prop := 0 ≤ r.lo ∧ r.lo ≤ r.hi ∧ r.hi ≤ 20
theorem PrOk.size_pos {r : Rg} (h : PrOk r) : 1 ≤ r.size ∧ r.size ≤ 21 := by unfold PrOk at h; unfold Rg.size; omega
theorem salesOk_prices {l : List SaleD} (h : salesOk l = true) : ∀ s ∈ l, PrOk s.price := by
  intro s hs
  obtain ⟨k, hk⟩ := List.getElem?_of_mem hs
  have h1 : salesLast (l.take (k + 1)) ≠ none := fun e => by rw [salesLast_none e] at h; cases h
  rw [salesLast_at hk] at h1
  cases h2 : salesLast (l.take k) with
  | none => rw [h2] at h1; exact absurd rfl h1
  | some q =>
    rw [h2] at h1
    simp only [saleStep, Option.bind_some] at h1
    split at h1
    · rename_i h3
      rw [Bool.and_eq_true] at h3
      have := Rg.upTo_iff.1 h3.2
      unfold PrOk; omega
    · exact absurd rfl h1
/-- A market without a fault. -/
structure MOk (m : MktD) : Prop where
  lf : loftFault m.loft = 0
  tr : (truthsR m.loft).isEmpty = false
  s4 : m.sales.length ≤ 4
  c4 : m.chests.length ≤ 4
  n5 : m.notes.length ≤ 5
  step : 0 ≤ m.step ∧ m.step ≤ 20
  lots : 0 ≤ m.lots ∧ m.lots ≤ 4
  sales : salesOk m.sales = true
  chests : ∀ c ∈ m.chests, chestOk m.loft.cakes.length c = true
  apart : apart m.chests
  notes : ∀ x ∈ m.notes, 0 ≤ x.sale ∧ x.sale < m.sales.length ∧ PrOk x.price
  many : capMul 3000 m.sizes ≤ 2000
theorem MOk.of {m : MktD} (h : mktFault m = 0) : MOk m := by
  unfold mktFault at h
  by_cases h1 : loftFault m.loft = 0
  case neg => rw [if_pos h1] at h; exact absurd h h1
  rw [if_neg (by simp [h1])] at h
  cases h2 : (truthsR m.loft).isEmpty
  case true => rw [if_pos h2] at h; cases h
  rw [if_neg (by simp [h2])] at h
  by_cases h3 : m.sales.length > 4 ∨ m.chests.length > 4 ∨ m.notes.length > 5
  · rw [if_pos h3] at h; cases h
  rw [if_neg h3] at h
  cases h4 : mktArgs m
  · rw [if_pos h4] at h; cases h
  rw [if_neg (by simp [h4])] at h
  have h5 : capMul 3000 m.sizes ≤ 2000 := by
    by_cases h5 : capMul 3000 m.sizes > 2000
    · rw [if_pos h5] at h; cases h
    · omega
  simp only [mktArgs, Bool.and_eq_true, inB_iff, decide_eq_true_eq, List.all_eq_true] at h4
  obtain ⟨⟨⟨⟨⟨a1, a2⟩, a3⟩, a4⟩, a5⟩, a6⟩ := h4
  refine ⟨h1, h2, by omega, by omega, by omega, a1, a2, a3, a4, a5, fun x hx => ?_, h5⟩
  have := a6 x hx
  simp only [noteOk, Bool.and_eq_true, inB_iff, Rg.upTo_iff] at this
  exact ⟨by omega, by omega, by unfold PrOk; omega⟩
theorem MOk.loft {m : MktD} (h : MOk m) : LOk m.loft := LOk.of h.lf
theorem MOk.prices {m : MktD} (h : MOk m) : ∀ s ∈ m.sales, PrOk s.price := salesOk_prices h.sales
theorem MOk.manyPos {m : MktD} (h : MOk m) : 1 ≤ capMul 3000 m.sizes ∧ capMul 3000 m.sizes ≤ 3000 := by
  refine capFold_pos (by omega) _ _ (by omega) (by omega) (fun s hs => ?_)
  obtain ⟨x, hx, rfl⟩ := List.mem_map.1 hs
  exact (h.prices x hx).size_pos.1

/-! ### Prices -/
def near (step a b : Int) : Bool := inB (b - a) (-step) step
def MktD.priceOf (m : MktD) (i : Nat) : Rg := (m.sales[i]?.map (·.price)).getD ⟨0, 0⟩
def priceAt (m : MktD) (l : List Int) (i : Nat) : Bool := (m.priceOf i).has (l.getD i 0) && (decide (i = 0) || near m.step (l.getD (i - 1) 0) (l.getD i 0))
def arePrices (m : MktD) (l : List Int) : Bool := decide (l.length = m.sales.length) && (List.range l.length).all (priceAt m l)
def nRight (l : List Int) (x : NoteD) : Bool := x.price.has ((gI l x.sale).getD 0)
def isTruth (m : MktD) (l : List Int) : Bool := arePrices m l && m.notes.all (nRight l)
def nthP (m : MktD) (n : Nat) : List Int := (nthF (m.sales.map (·.price)) n).1
def psR (m : MktD) (n : Nat) : List (List Int) := ((List.range n).map (nthP m)).filter (isTruth m)
def pricesR (m : MktD) : List (List Int) := psR m (capMul 3000 m.sizes).toNat
theorem psR_succ (m : MktD) (n : Nat) : psR m (n + 1) = psR m n ++ if isTruth m (nthP m n) then [nthP m n] else [] := by
  unfold psR
  rw [List.range_succ, List.map_append, List.filter_append]
  by_cases h : isTruth m (nthP m n) = true <;> simp [h]
theorem psR_len (m : MktD) (n : Nat) : (psR m n).length ≤ n := by
  unfold psR
  exact Nat.le_trans (List.length_filter_le _ _) (by simp)
theorem nthP_len (m : MktD) (n : Nat) : (nthP m n).length = m.sales.length := by simp [nthP, nthF, nthF_len]
theorem nthP_bd {m : MktD} (h : MOk m) (n : Nat) : ∀ x ∈ nthP m n, 0 ≤ x ∧ x ≤ 20 := by
  refine nthF_bd (m.sales.map (·.price)) ([], n) (fun r hr => ?_) (fun _ h => by cases h)
  obtain ⟨c, hc, rfl⟩ := List.mem_map.1 hr
  have := h.prices c hc
  unfold PrOk at this; omega
theorem nFull_iff (m : MktD) (l : List Int) : bitsN (m.notes.map (nRight l)) = 2 ^ m.notes.length - 1 ↔ m.notes.all (nRight l) = true := by
  have := bitsN_full_iff (m.notes.map (nRight l))
  rw [List.length_map] at this
  rw [this, List.all_map]; rfl
theorem range_all_succ (p : Nat → Bool) (k : Nat) : (List.range (k + 1)).all p = ((List.range k).all p && p k) := by
  rw [List.range_succ]; simp
theorem range_all_of {p : Nat → Bool} {n k : Nat} (hk : k < n) (h : p k = false) : (List.range n).all p = false := by
  rw [List.all_eq_false]; exact ⟨k, List.mem_range.2 hk, by simp [h]⟩
end Go.Proofs.YtenfnakhijobkaaGreat
namespace Go.Proofs.YtenfnakhijobkaaGreat
open Go.RowKit

/-- A slice's value: address, length, capacity. -/
structure Sl where
  a : Option Addr
  n : Nat
  c : Nat

/-- The slice s, with elements of sz cells, reads as xs. -/
structure Rd {α : Type} (R : World → α → List Value → Prop) (sz : Nat) (w : World) (s : Sl) (xs : List α) : Prop where
  len : xs.length = s.n
  small : s.n * sz ≤ 281474976710656
  cells : ∀ (j : Nat) (x : α), xs[j]? = some x → ∃ (b o : Nat) (cs : List Value), s.a = some ⟨b, o, none⟩ ∧ b < w.heap.size ∧ cs.length = sz ∧ R w x cs ∧
    ∀ (k : Nat) (v : Value), cs[k]? = some v → w.cell? ⟨b, o + j * sz + k, none⟩ = some v

/-- What is read stays read while old blocks stay. -/
def Mono {α : Type} (R : World → α → List Value → Prop) : Prop := ∀ (w w' : World) (x : α) (cs : List Value), Below w.heap.size w w' → R w x cs → R w' x cs

def encR {α : Type} (f : α → List Value) : World → α → List Value → Prop := fun _ x cs => cs = f x
theorem encR_mono {α : Type} (f : α → List Value) : Mono (encR f) := fun _ _ _ _ _ h => h

theorem Rd.below {α : Type} {R : World → α → List Value → Prop} (hR : Mono R) {sz : Nat} {w w' : World} {s : Sl} {xs : List α} (h : Rd R sz w s xs) (hb : Below w.heap.size w w') : Rd R sz w' s xs :=
  ⟨h.len, h.small, fun j x hx => by
    obtain ⟨b, o, cs, ha, hlt, hl, hr, hc⟩ := h.cells j x hx
    exact ⟨b, o, cs, ha, Nat.lt_of_lt_of_le hlt hb.size, hl, hR _ _ _ _ hb hr, fun k v hv => (hb.cell (p := ⟨b, o + j * sz + k, none⟩) hlt).trans (hc k v hv)⟩⟩

theorem rd_nil0 {α : Type} (R : World → α → List Value → Prop) (sz : Nat) (w : World) (a : Option Addr) (c : Nat) : Rd R sz w ⟨a, ([] : List α).length, c⟩ [] := ⟨rfl, by simp, fun _ _ h => by simp at h⟩
theorem flat_at {α β : Type} {f : α → List β} {sz : Nat} (hf : ∀ x, (f x).length = sz) : ∀ {xs : List α} {j k : Nat} {x : α} {u : β}, xs[j]? = some x → (f x)[k]? = some u → (xs.flatMap f)[j * sz + k]? = some u
  | [], j, k, x, u, hx, _ => by simp at hx
  | y :: xs, 0, k, x, u, hx, hk => by
    simp only [List.getElem?_cons_zero, Option.some.injEq] at hx
    subst hx
    rw [List.flatMap_cons, List.getElem?_append_left (by have := (List.getElem?_eq_some_iff.1 hk).1; omega)]
    simpa using hk
  | y :: xs, j + 1, k, x, u, hx, hk => by
    simp only [List.getElem?_cons_succ] at hx
    have ih := flat_at hf hx hk
    rw [List.flatMap_cons, List.getElem?_append_right (by rw [hf y, Nat.succ_mul]; omega), hf y]
    rw [show (j + 1) * sz + k - sz = j * sz + k from by rw [Nat.succ_mul]; omega]
    exact ih

/-- From the beginning's world over a block of the call's own: to what the loop's round knows. -/
theorem below_of {B : Nat} {w W wr : World} (h : Below B W wr) (hB : W.heap.size ≤ B) : Below W.heap.size W wr := h.mono hB
theorem below_two {B : Nat} {w W wr : World} (h0 : Below w.heap.size w W) (h : Below B W wr) (hB : w.heap.size ≤ B) : Below w.heap.size w wr := h0.trans (h.mono hB)
theorem below_then {B : Nat} {w w1 w2 : World} (h : Below B w w1) (hB : B ≤ w1.heap.size) (k : Below w1.heap.size w1 w2) : Below B w w2 := h.trans (k.mono hB)
theorem below_box (w : World) (o : Obj) : Below w.heap.size w (w.alloc o) := (Below.refl _ _).alloc (Nat.le_refl _) _

theorem box_cell {B : Nat} {w wr : World} {cs : Array Value} {T : TypeId} {fr : Nat × Nat} (hb : Below B (w.alloc (.cells cs T fr)) wr) (hB : w.heap.size < B) (k : Nat) (v : Value) (h : cs[k]? = some v) :
    wr.cell? ⟨w.heap.size, k, none⟩ = some v := by
  rw [hb.cell (p := ⟨w.heap.size, k, none⟩) hB]
  have h2 := World.alloc_heap_new w (.cells cs T fr)
  unfold World.cell?
  simp only [h2]
  simpa using h

theorem below_drew (w : World) : Below w.heap.size w w.drew := (Below.refl _ _).drew
theorem bcell {B : Nat} {W w1 : World} (hb : Below B W w1) : (∀ b o, b < B → w1.cell? ⟨b, o, none⟩ = W.cell? ⟨b, o, none⟩) ∧ (∀ b o, b < B → w1.frozen? ⟨b, o, none⟩ = W.frozen? ⟨b, o, none⟩) :=
  ⟨fun b o h => hb.cell (p := ⟨b, o, none⟩) h, fun b o h => hb.frozen (p := ⟨b, o, none⟩) h⟩

theorem lift {w wr : World} {b o : Nat} {v : Value} (hb : Below w.heap.size w wr) (h : w.cell? ⟨b, o, none⟩ = some v) : wr.cell? ⟨b, o, none⟩ = some v :=
  (hb.cell (p := ⟨b, o, none⟩) (World.block_lt_of_cell? w ⟨b, o, none⟩ h)).trans h

/-- Block n holds the cells cs. -/
structure Box (w : World) (n : Nat) (cs : Array Value) (T : TypeId) : Prop where
  at_ : w.heap[n]? = some (.cells cs T (0, 0))
theorem Box.new (w : World) (cs : Array Value) (T : TypeId) : Box (w.alloc (.cells cs T)) w.heap.size cs T := ⟨World.alloc_heap_new w _⟩
theorem Box.lt {w : World} {n : Nat} {cs : Array Value} {T : TypeId} (h : Box w n cs T) : n < w.heap.size := (Array.getElem?_eq_some_iff.1 h.at_).1
theorem Box.cell {w : World} {n : Nat} {cs : Array Value} {T : TypeId} (h : Box w n cs T) (k : Nat) (v : Value) (hv : cs[k]? = some v) : w.cell? ⟨n, k, none⟩ = some v := by
  unfold World.cell?
  simp only [h.at_]
  simpa using hv
theorem Box.free {w : World} {n : Nat} {cs : Array Value} {T : TypeId} (h : Box w n cs T) (k : Nat) : w.frozen? ⟨n, k, none⟩ = false := by
  unfold World.frozen?
  simp only [h.at_]
  simp
theorem Box.grown {w w' : World} {n : Nat} {cs : Array Value} {T : TypeId} {row : Option Nat} (h : Box w n cs T) (hg : w.grownBy w' row) (hne : row ≠ some n) : Box w' n cs T := ⟨(hg.block n h.lt (Ne.symm hne)).trans h.at_⟩
theorem Box.lift {w w' : World} {n : Nat} {cs : Array Value} {T : TypeId} (h : Box w n cs T) (hb : Below w.heap.size w w') : Box w' n cs T := ⟨(hb.block n h.lt).trans h.at_⟩
theorem Box.set {w : World} {n : Nat} {cs : Array Value} {T : TypeId} (h : Box w n cs T) (k : Nat) (u : Value) : Box (w.setCell ⟨n, k, none⟩ u) n (cs.setIfInBounds k u) T := ⟨heap_setCell_same w n k cs T u h.at_⟩
theorem Box.far {w : World} {n : Nat} {cs : Array Value} {T : TypeId} (h : Box w n cs T) {b k : Nat} (hne : n ≠ b) (u : Value) : Box (w.setCell ⟨b, k, none⟩ u) n cs T := ⟨(heap_setCell_other w ⟨b, k, none⟩ n u hne).trans h.at_⟩
theorem below_set {B : Nat} {a w : World} {b k : Nat} (h : Below B a w) (hb : B ≤ b) (u : Value) : Below B a (w.setCell ⟨b, k, none⟩ u) := h.setCell (p := ⟨b, k, none⟩) hb u
theorem Box.named (w : World) (cs : Array Value) (T : TypeId) : ∃ W0, w.alloc (.cells cs T) = W0 ∧ Box W0 w.heap.size cs T ∧ Below w.heap.size w W0 ∧ Hid (W0.heap.size = w.heap.size + 1) :=
  ⟨_, rfl, Box.new _ _ _, below_box _ _, World.size_alloc _ _⟩
theorem below_on {w W wr : World} (h0 : Below w.heap.size w W) (h : Below W.heap.size W wr) : Below w.heap.size w wr := h0.trans (h.mono h0.size)

/-! ### Rows of the call's own -/
theorem lift_grown {w w' : World} {row : Option Nat} {b o : Nat} {v : Value} (hg : w.grownBy w' row) (h : w.cell? ⟨b, o, none⟩ = some v) (hne : row ≠ some b) : w'.cell? ⟨b, o, none⟩ = some v :=
  (hg.cell_far ⟨b, o, none⟩ (World.block_lt_of_cell? w ⟨b, o, none⟩ h) (Ne.symm hne)).trans h
theorem grown_below {w w1 : World} (h : Below w.heap.size w w1) (row : Option Nat) : w.grownBy w1 row := ⟨h.os, h.tape, h.output, h.size, fun i hi _ => h.block i hi⟩
theorem own_below {w w1 : World} {base : Nat} {e : TypeId} {size n : Nat} {v : Value} {xs : List Value} (h : w.ownsRow base e size v n xs) (hb : Below w.heap.size w w1) : w1.ownsRow base e size v n xs :=
  h.kept (grown_below hb none) (by cases v.ownBlock <;> simp)
theorem own_ne {w : World} {base : Nat} {e : TypeId} {size n : Nat} {v : Value} {xs : List Value} (h : w.ownsRow base e size v n xs) {b : Nat} (hb : b < base ∨ w.heap.size ≤ b) : v.ownBlock ≠ some b := fun e => by
  have := h.lt b e
  omega
theorem own_far {w : World} {base : Nat} {e : TypeId} {size n : Nat} {v : Value} {xs : List Value} (h : w.ownsRow base e size v n xs) {b k : Nat} (hne : v.ownBlock ≠ some b) (u : Value) : (w.setCell ⟨b, k, none⟩ u).ownsRow base e size v n xs := by
  obtain ⟨h1, h2⟩ := h
  refine ⟨h1, ?_⟩
  rcases h2 with h2 | ⟨g, cap, cur, hv, hg, hh, r⟩
  · exact Or.inl h2
  · refine Or.inr ⟨g, cap, cur, hv, hg, ?_, r⟩
    rw [heap_setCell_other w ⟨b, k, none⟩ g u (by rintro rfl; exact hne (by rw [hv]; rfl))]
    exact hh
theorem grown_on {w wr w3 : World} {row : Option Nat} (h : w.grownBy wr row) (k : Below w.heap.size wr w3) : w.grownBy w3 row :=
  ⟨k.os.trans h.os, k.tape.trans h.tape, k.output.trans h.output, Nat.le_trans h.size k.size, fun i hi hne => (k.block i hi).trans (h.block i hi hne)⟩
theorem grown_set {w w3 : World} {b k : Nat} (h : w.grownBy w3 (some b)) (u : Value) : w.grownBy (w3.setCell ⟨b, k, none⟩ u) (some b) :=
  ⟨h.os, h.tape, h.output, by rw [World.size_setCell]; exact h.size, fun i hi hne => (heap_setCell_other w3 ⟨b, k, none⟩ i u (by rintro rfl; exact hne rfl)).trans (h.block i hi hne)⟩
theorem grown_rfl (w : World) (row : Option Nat) : w.grownBy w row := ⟨rfl, rfl, rfl, Nat.le_refl _, fun _ _ _ => rfl⟩
/-- What is read stays read where one block alone, another, was written. -/
theorem Rd.grown {α : Type} {f : α → List Value} {sz : Nat} {w w' : World} {s : Sl} {xs : List α} {b : Nat} (h : Rd (encR f) sz w s xs) (hg : w.grownBy w' (some b)) (hne : ∀ ad, s.a = some ad → ad.block ≠ b) : Rd (encR f) sz w' s xs :=
  ⟨h.len, h.small, fun j x hx => by
    obtain ⟨b', o, cs, ha, hlt, hl, hr, hc⟩ := h.cells j x hx
    have hb' := hne _ ha
    refine ⟨b', o, cs, ha, Nat.lt_of_lt_of_le hlt hg.size, hl, hr, fun k v hv => lift_grown hg (hc k v hv) ?_⟩
    intro e
    injection e with e
    exact hb' e.symm⟩
/-- A row of the call's own, read. -/
theorem own_rd {α : Type} {f : α → List Value} {sz : Nat} (hf : ∀ x, (f x).length = sz) {w : World} {base : Nat} {e : TypeId} {v : Value} {xs : List α} (hsm : xs.length * sz ≤ 281474976710656)
    (h : w.ownsRow base e sz v xs.length (xs.flatMap f)) : ∃ a c, v = .slice a xs.length c ∧ Rd (encR f) sz w ⟨a, xs.length, c⟩ xs ∧ (∀ ad, a = some ad → base ≤ ad.block) := by
  rcases h.2 with ⟨rfl, h0⟩ | ⟨g, cap, cur, rfl, hb, hh, _⟩
  · have : xs = [] := List.eq_nil_of_length_eq_zero h0
    subst this
    exact ⟨none, 0, rfl, rd_nil0 _ _ _ _ _, fun _ e => by cases e⟩
  · refine ⟨_, cap, rfl, ⟨rfl, hsm, fun j x hx => ?_⟩, fun ad e => by cases e; exact hb⟩
    refine ⟨g, 0, f x, rfl, (Array.getElem?_eq_some_iff.1 hh).1, hf x, rfl, fun k u hk => ?_⟩
    have hj := (List.getElem?_eq_some_iff.1 hx).1
    have hkl : k < sz := by rw [← hf x]; exact (List.getElem?_eq_some_iff.1 hk).1
    have hidx : (xs.flatMap f)[j * sz + k]? = some u := flat_at hf hx hk
    have := h.cells (g := g) rfl (j * sz + k) u hidx
    rw [show (⟨g, 0, none⟩ : Addr).add (j * sz + k) = ⟨g, j * sz + k, none⟩ from by unfold Addr.add; split <;> simp_all] at this
    simpa using this

/-! ### Lists -/
theorem take_all {α : Type} {xs : List α} {k : Nat} {x : α} (p : α → Bool) (h : xs[k]? = some x) : (xs.take (k + 1)).all p = ((xs.take k).all p && p x) := by
  rw [List.take_add_one, h]; simp
theorem take_any {α : Type} {xs : List α} {k : Nat} {x : α} (p : α → Bool) (h : xs[k]? = some x) : (xs.take (k + 1)).any p = ((xs.take k).any p || p x) := by
  rw [List.take_add_one, h]; simp
theorem take_foldl {α β : Type} {xs : List α} {k : Nat} {x : α} (f : β → α → β) (b : β) (h : xs[k]? = some x) : (xs.take (k + 1)).foldl f b = f ((xs.take k).foldl f b) x := by
  rw [List.take_add_one, h]; simp
theorem all_of_at {α : Type} {xs : List α} {k : Nat} {x : α} (p : α → Bool) (h : xs[k]? = some x) (hp : p x = false) : xs.all p = false := by
  rw [List.all_eq_false]; exact ⟨x, List.mem_of_getElem? h, by simp [hp]⟩
theorem any_of_at {α : Type} {xs : List α} {k : Nat} {x : α} (p : α → Bool) (h : xs[k]? = some x) (hp : p x = true) : xs.any p = true := by
  rw [List.any_eq_true]; exact ⟨x, List.mem_of_getElem? h, hp⟩
theorem at_of_lt {α : Type} {xs : List α} {n k : Nat} (hl : xs.length = n) (h : k < n) : ∃ x, xs[k]? = some x := ⟨xs[k], List.getElem?_eq_getElem (by omega)⟩
theorem lt_of_at {α : Type} {xs : List α} {k : Nat} {x : α} (h : xs[k]? = some x) : k < xs.length := (List.getElem?_eq_some_iff.1 h).1
theorem take_len {α : Type} {xs : List α} {n : Nat} (hl : xs.length = n) : xs.take n = xs := by rw [← hl, List.take_length]

theorem ret_int {k : IntKind} {a b : Int} (h : a = b) : Ending.returned (.int k a) = .returned (.int k b) := by rw [h]
theorem ret_bool {a b : Bool} (h : a = b) : Ending.returned (.bool a) = .returned (.bool b) := by rw [h]

/-! ### A region that draws its order, whose operations read and whose callees make new blocks alone -/
/-- A world behind w: whatever w had stands. -/
structure After (w : World) where
  val : World
  prop : Below w.heap.size w val
instance (w : World) : Nonempty (After w) := ⟨⟨w, Below.refl _ _⟩⟩
def At {w : World} (x : After w) : World := x.val
theorem At.below {w : World} (x : After w) : Below w.heap.size w (At x) := x.prop
theorem At.cell {w : World} {b o : Nat} {v : Value} (h : w.cell? ⟨b, o, none⟩ = some v) (x : After w) : (At x).cell? ⟨b, o, none⟩ = some v :=
  (x.prop.cell (p := ⟨b, o, none⟩) (World.block_lt_of_cell? w ⟨b, o, none⟩ h)).trans h
theorem wp_region_after {P : Program} {id : Nat} {Q : Exit → Act → World → Prop} {a : Act} {w : World} {l : List Oper} (hm : P.follows .mixedOrders = true) (hB : Region.lexB .any l.toArray = true)
    (h : wpQuiet P l.toArray (fun w' => ∃ x : After w, w' = At x) (fun a' => ∀ w', Below w.heap.size w w' → Q .normal a' w') l a) : (Code.region id l.toArray true).wp P Q a w := by
  refine wp_region_quiet (C := fun w' => ∃ x : After w, w' = At x) hm hB ⟨⟨w.drew, (Below.refl _ _).drew⟩, rfl⟩ ?_
  have e : (fun a' => ∀ w', (∃ x : After w, w' = At x) → Q .normal a' w') = (fun a' => ∀ w', Below w.heap.size w w' → Q .normal a' w') := by
    funext a'
    apply propext
    exact ⟨fun h w' hb => h w' ⟨⟨w', hb⟩, rfl⟩, fun h w' ⟨x, hx⟩ => hx ▸ h _ x.prop⟩
  rw [e]
  simpa using h
theorem after_call {P : Program} {f : FuncId} {args : Array Value} {w : World} {x : After w} {v : Value}
    (h : Calls P f args (At x) fun e w' => e = .returned v ∧ Below (At x).heap.size (At x) w') : Calls P f args (At x) fun e w'' => e = .returned v ∧ ∃ y : After w, w'' = At y :=
  h.mono fun _ w'' ⟨he, hb⟩ => ⟨he, ⟨w'', x.prop.trans (hb.mono x.prop.size)⟩, rfl⟩
theorem after_same {P : Program} {f : FuncId} {args : Array Value} {w : World} {x : After w} {v : Value}
    (h : Calls P f args (At x) fun e w' => e = .returned v ∧ At x = w') : Calls P f args (At x) fun e w'' => e = .returned v ∧ ∃ y : After w, w'' = At y :=
  h.mono fun _ _ ⟨he, hb⟩ => ⟨he, x, hb.symm⟩
/-- The value by another name. -/
theorem call_val {P : Program} {f : FuncId} {args : Array Value} {w : World} {v u : Value} {R : World → Prop} (h : Calls P f args w fun e w' => e = .returned v ∧ R w') (e : v = u) :
    Calls P f args w fun e w' => e = .returned u ∧ R w' := by subst e; exact h
theorem call_b {P : Program} {f : FuncId} {args : Array Value} {w : World} {v u : Bool} {R : World → Prop} (h : Calls P f args w fun e w' => e = .returned (.bool v) ∧ R w') (e : v = u) :
    Calls P f args w fun e w' => e = .returned (.bool u) ∧ R w' := by subst e; exact h

theorem rd_nil {α : Type} (R : World → α → List Value → Prop) (sz : Nat) (w : World) (a : Option Addr) (c : Nat) : Rd R sz w ⟨a, 0, c⟩ [] := ⟨rfl, by simp, fun _ _ h => by simp at h⟩
end Go.Proofs.YtenfnakhijobkaaGreat
namespace Go.Proofs.YtenfnakhijobkaaGreat
open Go.RowKit

abbrev Rg.cs (r : Rg) : List Value := [.int .i64 r.lo, .int .i64 r.hi]
abbrev BoardD.cs (b : BoardD) : List Value := [.int .i64 b.room, .int .i64 b.draft]
abbrev CakeD.cs (c : CakeD) : List Value := [.int .i64 c.come, .int .i64 c.water.lo, .int .i64 c.water.hi, .int .i64 c.keep]
abbrev WeightD.cs (c : WeightD) : List Value := [.int .i64 c.cake, .int .i64 c.day, .int .i64 c.water.lo, .int .i64 c.water.hi]
abbrev SaleD.cs (s : SaleD) : List Value := [.int .i64 s.day, .int .i64 s.price.lo, .int .i64 s.price.hi]
abbrev NoteD.cs (s : NoteD) : List Value := [.int .i64 s.sale, .int .i64 s.price.lo, .int .i64 s.price.hi]
abbrev RdInts (w : World) (s : Sl) (xs : List Int) : Prop := Rd (encR fun x : Int => [.int .i64 x]) 1 w s xs
abbrev RdRgs (w : World) (s : Sl) (xs : List Rg) : Prop := Rd (encR Rg.cs) 2 w s xs
/-- A chest's cells: a slice of cakes, the reserve. -/
def chestR (w : World) (c : ChestD) (cs : List Value) : Prop := ∃ s : Sl, cs = [.slice s.a s.n s.c, .int .i64 c.reserve] ∧ RdInts w s c.cakes
theorem chestR_mono : Mono chestR := fun _ _ _ _ hb ⟨s, e, h⟩ => ⟨s, e, h.below (encR_mono _) hb⟩
/-- A list of lists of numbers. -/
def listR (w : World) (l : List Int) (cs : List Value) : Prop := ∃ s : Sl, cs = [.slice s.a s.n s.c] ∧ RdInts w s l
theorem listR_mono : Mono listR := fun _ _ _ _ hb ⟨s, e, h⟩ => ⟨s, e, h.below (encR_mono _) hb⟩

structure LoftV where
  last : Int
  air : Sl
  shelves : Sl
  cakes : Sl
  put : Sl
  weights : Sl
structure MktV where
  loft : LoftV
  sales : Sl
  chests : Sl
  step : Int
  lots : Int
  notes : Sl
abbrev LoftV.cs (v : LoftV) : Array Value := #[.int .i64 v.last, .slice v.air.a v.air.n v.air.c, .slice v.shelves.a v.shelves.n v.shelves.c, .slice v.cakes.a v.cakes.n v.cakes.c, .slice v.put.a v.put.n v.put.c, .slice v.weights.a v.weights.n v.weights.c]
abbrev MktV.cs (v : MktV) : Array Value := #[.int .i64 v.loft.last, .slice v.loft.air.a v.loft.air.n v.loft.air.c, .slice v.loft.shelves.a v.loft.shelves.n v.loft.shelves.c, .slice v.loft.cakes.a v.loft.cakes.n v.loft.cakes.c, .slice v.loft.put.a v.loft.put.n v.loft.put.c, .slice v.loft.weights.a v.loft.weights.n v.loft.weights.c,
  .slice v.sales.a v.sales.n v.sales.c, .slice v.chests.a v.chests.n v.chests.c, .int .i64 v.step, .int .i64 v.lots, .slice v.notes.a v.notes.n v.notes.c]
structure RdLoft (w : World) (v : LoftV) (l : LoftD) : Prop where
  last : v.last = l.last
  air : RdRgs w v.air l.air
  shelves : Rd (encR BoardD.cs) 2 w v.shelves l.shelves
  cakes : Rd (encR CakeD.cs) 4 w v.cakes l.cakes
  put : RdInts w v.put l.put
  weights : Rd (encR WeightD.cs) 4 w v.weights l.weights
structure RdMkt (w : World) (v : MktV) (m : MktD) : Prop where
  loft : RdLoft w v.loft m.loft
  sales : Rd (encR SaleD.cs) 3 w v.sales m.sales
  chests : Rd chestR 2 w v.chests m.chests
  step : v.step = m.step
  lots : v.lots = m.lots
  notes : Rd (encR NoteD.cs) 3 w v.notes m.notes
theorem RdLoft.below {w w' : World} {v : LoftV} {l : LoftD} (h : RdLoft w v l) (hb : Below w.heap.size w w') : RdLoft w' v l :=
  ⟨h.last, h.air.below (encR_mono _) hb, h.shelves.below (encR_mono _) hb, h.cakes.below (encR_mono _) hb, h.put.below (encR_mono _) hb, h.weights.below (encR_mono _) hb⟩
theorem RdMkt.below {w w' : World} {v : MktV} {m : MktD} (h : RdMkt w v m) (hb : Below w.heap.size w w') : RdMkt w' v m :=
  ⟨h.loft.below hb, h.sales.below (encR_mono _) hb, h.chests.below chestR_mono hb, h.step, h.lots, h.notes.below (encR_mono _) hb⟩

section
variable {w : World} {s : Sl} {k : Nat}
/-- Element k, cell by cell, as a walk wants it. -/
theorem Rd.int_at {xs : List Int} (h : RdInts w s xs) {x : Int} (hx : xs[k]? = some x) : ∃ b o, s.a = some ⟨b, o, none⟩ ∧ b < w.heap.size ∧ w.cell? ⟨b, o + k, none⟩ = some (.int .i64 x) := by
  obtain ⟨b, o, cs, ha, hb, hl, hr, hc⟩ := h.cells k x hx
  cases hr
  exact ⟨b, o, ha, hb, by simpa using hc 0 _ rfl⟩
theorem Rd.rg_at {xs : List Rg} (h : RdRgs w s xs) {x : Rg} (hx : xs[k]? = some x) : ∃ b o, s.a = some ⟨b, o, none⟩ ∧ b < w.heap.size ∧ w.cell? ⟨b, o + k * 2, none⟩ = some (.int .i64 x.lo) ∧ w.cell? ⟨b, o + k * 2 + 1, none⟩ = some (.int .i64 x.hi) := by
  obtain ⟨b, o, cs, ha, hb, hl, hr, hc⟩ := h.cells k x hx
  cases hr
  exact ⟨b, o, ha, hb, hc 0 _ rfl, hc 1 _ rfl⟩
theorem Rd.board_at {xs : List BoardD} (h : Rd (encR BoardD.cs) 2 w s xs) {x : BoardD} (hx : xs[k]? = some x) : ∃ b o, s.a = some ⟨b, o, none⟩ ∧ b < w.heap.size ∧ w.cell? ⟨b, o + k * 2, none⟩ = some (.int .i64 x.room) ∧ w.cell? ⟨b, o + k * 2 + 1, none⟩ = some (.int .i64 x.draft) := by
  obtain ⟨b, o, cs, ha, hb, hl, hr, hc⟩ := h.cells k x hx
  cases hr
  exact ⟨b, o, ha, hb, hc 0 _ rfl, hc 1 _ rfl⟩
theorem Rd.cake_at {xs : List CakeD} (h : Rd (encR CakeD.cs) 4 w s xs) {x : CakeD} (hx : xs[k]? = some x) : ∃ b o, s.a = some ⟨b, o, none⟩ ∧ b < w.heap.size ∧ w.cell? ⟨b, o + k * 4, none⟩ = some (.int .i64 x.come) ∧ w.cell? ⟨b, o + k * 4 + 1, none⟩ = some (.int .i64 x.water.lo) ∧ w.cell? ⟨b, o + k * 4 + 2, none⟩ = some (.int .i64 x.water.hi) ∧ w.cell? ⟨b, o + k * 4 + 3, none⟩ = some (.int .i64 x.keep) := by
  obtain ⟨b, o, cs, ha, hb, hl, hr, hc⟩ := h.cells k x hx
  cases hr
  exact ⟨b, o, ha, hb, hc 0 _ rfl, hc 1 _ rfl, hc 2 _ rfl, hc 3 _ rfl⟩
theorem Rd.weight_at {xs : List WeightD} (h : Rd (encR WeightD.cs) 4 w s xs) {x : WeightD} (hx : xs[k]? = some x) : ∃ b o, s.a = some ⟨b, o, none⟩ ∧ b < w.heap.size ∧ w.cell? ⟨b, o + k * 4, none⟩ = some (.int .i64 x.cake) ∧ w.cell? ⟨b, o + k * 4 + 1, none⟩ = some (.int .i64 x.day) ∧ w.cell? ⟨b, o + k * 4 + 2, none⟩ = some (.int .i64 x.water.lo) ∧ w.cell? ⟨b, o + k * 4 + 3, none⟩ = some (.int .i64 x.water.hi) := by
  obtain ⟨b, o, cs, ha, hb, hl, hr, hc⟩ := h.cells k x hx
  cases hr
  exact ⟨b, o, ha, hb, hc 0 _ rfl, hc 1 _ rfl, hc 2 _ rfl, hc 3 _ rfl⟩
theorem Rd.sale_at {xs : List SaleD} (h : Rd (encR SaleD.cs) 3 w s xs) {x : SaleD} (hx : xs[k]? = some x) : ∃ b o, s.a = some ⟨b, o, none⟩ ∧ b < w.heap.size ∧ w.cell? ⟨b, o + k * 3, none⟩ = some (.int .i64 x.day) ∧ w.cell? ⟨b, o + k * 3 + 1, none⟩ = some (.int .i64 x.price.lo) ∧ w.cell? ⟨b, o + k * 3 + 2, none⟩ = some (.int .i64 x.price.hi) := by
  obtain ⟨b, o, cs, ha, hb, hl, hr, hc⟩ := h.cells k x hx
  cases hr
  exact ⟨b, o, ha, hb, hc 0 _ rfl, hc 1 _ rfl, hc 2 _ rfl⟩
theorem Rd.note_at {xs : List NoteD} (h : Rd (encR NoteD.cs) 3 w s xs) {x : NoteD} (hx : xs[k]? = some x) : ∃ b o, s.a = some ⟨b, o, none⟩ ∧ b < w.heap.size ∧ w.cell? ⟨b, o + k * 3, none⟩ = some (.int .i64 x.sale) ∧ w.cell? ⟨b, o + k * 3 + 1, none⟩ = some (.int .i64 x.price.lo) ∧ w.cell? ⟨b, o + k * 3 + 2, none⟩ = some (.int .i64 x.price.hi) := by
  obtain ⟨b, o, cs, ha, hb, hl, hr, hc⟩ := h.cells k x hx
  cases hr
  exact ⟨b, o, ha, hb, hc 0 _ rfl, hc 1 _ rfl, hc 2 _ rfl⟩
theorem Rd.chest_at {xs : List ChestD} (h : Rd chestR 2 w s xs) {x : ChestD} (hx : xs[k]? = some x) : ∃ b o, ∃ t : Sl, s.a = some ⟨b, o, none⟩ ∧ b < w.heap.size ∧ w.cell? ⟨b, o + k * 2, none⟩ = some (.slice t.a t.n t.c) ∧ w.cell? ⟨b, o + k * 2 + 1, none⟩ = some (.int .i64 x.reserve) ∧ RdInts w t x.cakes := by
  obtain ⟨b, o, cs, ha, hb, hl, ⟨t, rfl, ht⟩, hc⟩ := h.cells k x hx
  exact ⟨b, o, t, ha, hb, hc 0 _ rfl, hc 1 _ rfl, ht⟩
theorem Rd.list_at {xs : List (List Int)} (h : Rd listR 1 w s xs) {x : List Int} (hx : xs[k]? = some x) : ∃ b o, ∃ t : Sl, s.a = some ⟨b, o, none⟩ ∧ b < w.heap.size ∧ w.cell? ⟨b, o + k, none⟩ = some (.slice t.a t.n t.c) ∧ RdInts w t x := by
  obtain ⟨b, o, cs, ha, hb, hl, ⟨t, rfl, ht⟩, hc⟩ := h.cells k x hx
  exact ⟨b, o, t, ha, hb, by simpa using hc 0 _ rfl, ht⟩
end
theorem RdLoft.nle {w : World} {v : LoftV} {l : LoftD} (h : RdLoft w v l) : v.air.n ≤ 281474976710656 ∧ v.shelves.n ≤ 281474976710656 ∧ v.cakes.n ≤ 281474976710656 ∧ v.put.n ≤ 281474976710656 ∧ v.weights.n ≤ 281474976710656 :=
  ⟨by have := h.air.small; omega, by have := h.shelves.small; omega, by have := h.cakes.small; omega, by have := h.put.small; omega, by have := h.weights.small; omega⟩
end Go.Proofs.YtenfnakhijobkaaGreat
namespace Go.Proofs.YtenfnakhijobkaaGreat
open Go.RowKit

/-- It is so in w, and in each later world in which the blocks from B on lie as they lay. -/
def Fr (P : World → Prop) (B : Nat) (w : World) : Prop := ∀ w' : World, w.heap.size ≤ w'.heap.size → (∀ k, B ≤ k → k < w.heap.size → w'.heap[k]? = w.heap[k]?) → P w'
theorem Fr.now {P : World → Prop} {B : Nat} {w : World} (h : Fr P B w) : P w := h w (Nat.le_refl _) (fun _ _ _ => rfl)
theorem Fr.on {P : World → Prop} {B : Nat} {w w1 : World} (h : Fr P B w) (hs : w.heap.size ≤ w1.heap.size) (hk : ∀ k, B ≤ k → k < w.heap.size → w1.heap[k]? = w.heap[k]?) : Fr P B w1 :=
  fun w' hs' hk' => h w' (Nat.le_trans hs hs') (fun k hB hlt => (hk' k hB (Nat.lt_of_lt_of_le hlt hs)).trans (hk k hB hlt))
theorem Fr.below {P : World → Prop} {B : Nat} {w w1 : World} (h : Fr P B w) (hb : Below w.heap.size w w1) : Fr P B w1 := h.on hb.size (fun k _ hlt => hb.block k hlt)
theorem Fr.grown {P : World → Prop} {B : Nat} {w w1 : World} {row : Option Nat} (h : Fr P B w) (hg : w.grownBy w1 row) (hr : ∀ k, row = some k → k < B) : Fr P B w1 :=
  h.on hg.size (fun k hB hlt => hg.block k hlt (fun e => by have := hr k e.symm; omega))
theorem Fr.set {P : World → Prop} {B : Nat} {w : World} (h : Fr P B w) {b k : Nat} (hb : b < B) (u : Value) : Fr P B (w.setCell ⟨b, k, none⟩ u) :=
  h.grown (row := some b) (grown_set (grown_rfl _ _) u) (fun k e => by cases e; exact hb)
theorem Fr.mono {P Q : World → Prop} {B B' : Nat} {w : World} (h : Fr P B w) (hB : B' ≤ B) (hPQ : ∀ w', P w' → Q w') : Fr Q B' w :=
  fun w' hs hk => hPQ _ (h w' hs (fun k hBk hlt => hk k (Nat.le_trans hB hBk) hlt))
theorem Fr.and {P Q : World → Prop} {B : Nat} {w : World} (h : Fr P B w) (k : Fr Q B w) : Fr (fun w' => P w' ∧ Q w') B w := fun w' hs hk => ⟨h w' hs hk, k w' hs hk⟩
theorem Fr.const {P : Prop} (h : P) (B : Nat) (w : World) : Fr (fun _ => P) B w := fun _ _ _ => h

/-- It is so in w, and in each later world in which blocks of S alone were written. -/
def Off (P : World → Prop) (S : Nat → Prop) (w : World) : Prop := ∀ w' : World, w.heap.size ≤ w'.heap.size → (∀ k, k < w.heap.size → ¬ S k → w'.heap[k]? = w.heap[k]?) → P w'
theorem Off.now {P : World → Prop} {S : Nat → Prop} {w : World} (h : Off P S w) : P w := h w (Nat.le_refl _) (fun _ _ _ => rfl)
theorem Off.on {P : World → Prop} {S : Nat → Prop} {w w1 : World} (h : Off P S w) (hs : w.heap.size ≤ w1.heap.size) (hk : ∀ k, k < w.heap.size → ¬ S k → w1.heap[k]? = w.heap[k]?) : Off P S w1 :=
  fun w' hs' hk' => h w' (Nat.le_trans hs hs') (fun k hlt hS => (hk' k (Nat.lt_of_lt_of_le hlt hs) hS).trans (hk k hlt hS))
theorem Off.below {P : World → Prop} {S : Nat → Prop} {w w1 : World} (h : Off P S w) (hb : Below w.heap.size w w1) : Off P S w1 := h.on hb.size (fun k hlt _ => hb.block k hlt)
/-- .. the row has moved to a new block. -/
theorem Off.moved {P : World → Prop} {S0 : Nat → Prop} {ob : Option Nat} {w w1 : World} (h : Off P (fun k => S0 k ∨ some k = ob) w) (hg : w.grownBy w1 ob) {g : Nat} (hgs : w.heap.size ≤ g) : Off P (fun k => S0 k ∨ some k = some g) w1 := fun w' hs hk =>
  h w' (Nat.le_trans hg.size hs) (fun k hlt hS => (hk k (Nat.lt_of_lt_of_le hlt hg.size) (fun hS' => by
    rcases hS' with hS' | hS'
    · exact hS (Or.inl hS')
    · cases hS'; omega)).trans (hg.block k hlt (fun e => hS (Or.inr e))))
/-- What is fresh minds no older block. -/
theorem Fr.off {P : World → Prop} {B : Nat} {w : World} (h : Fr P B w) {S : Nat → Prop} (ho : ∀ k, S k → k < B ∨ w.heap.size ≤ k) : Off P S w := fun w' hs hk =>
  h w' hs (fun k hB hlt => hk k hlt (fun hS => by have := ho k hS; omega))

/-- A row of the call's own, whose elements lead to further memory; S0: blocks that may be written besides. -/
structure Acc {α : Type} (R : World → α → List Value → Prop) (S0 : Nat → Prop) (e sz base : Nat) (w : World) (v : Value) (xs : List α) : Prop where
  ex : ∃ rows : List (List Value), rows.length = xs.length ∧ (∀ r ∈ rows, r.length = sz) ∧ w.ownsRow base e sz v xs.length rows.flatten ∧
    ∀ (j : Nat) (x : α) (cs : List Value), xs[j]? = some x → rows[j]? = some cs → Off (fun w' => R w' x cs) (fun k => S0 k ∨ some k = v.ownBlock) w
section
variable {α : Type} {R : World → α → List Value → Prop} {S0 : Nat → Prop} {e sz base : Nat} {w w1 : World} {v : Value} {xs : List α}
theorem Acc.nil (w : World) : Acc R S0 e sz base w (.slice none 0 0) [] := ⟨[], rfl, by simp, World.ownsRow_nil _ _ _ _, by simp⟩
theorem Acc.below (h : Acc R S0 e sz base w v xs) (hb : Below w.heap.size w w1) : Acc R S0 e sz base w1 v xs := by
  obtain ⟨rows, h1, h2, h3, h4⟩ := h.ex
  exact ⟨rows, h1, h2, own_below h3 hb, fun j x cs hx hc => (h4 j x cs hx hc).below hb⟩
theorem Acc.row (h : Acc R S0 e sz base w v xs) : ∃ cells, w.ownsRow base e sz v xs.length cells := by
  obtain ⟨rows, h1, h2, h3, h4⟩ := h.ex
  exact ⟨_, h3⟩
theorem Acc.ne (h : Acc R S0 e sz base w v xs) {b : Nat} (hb : b < base ∨ w.heap.size ≤ b) : v.ownBlock ≠ some b := by
  obtain ⟨cells, hc⟩ := h.row
  exact own_ne hc hb
theorem Acc.lt (h : Acc R S0 e sz base w v xs) : ∀ k, v.ownBlock = some k → base ≤ k ∧ k < w.heap.size := by
  obtain ⟨cells, hc⟩ := h.row
  exact hc.lt
theorem Acc.set (h : Acc R S0 e sz base w v xs) {b k : Nat} (hb : v.ownBlock ≠ some b) (hS : S0 b) (u : Value) : Acc R S0 e sz base (w.setCell ⟨b, k, none⟩ u) v xs := by
  obtain ⟨rows, h1, h2, h3, h4⟩ := h.ex
  exact ⟨rows, h1, h2, own_far h3 hb u, fun j x cs hx hc => (h4 j x cs hx hc).on (by rw [World.size_setCell]; exact Nat.le_refl _) (fun i _ hi => heap_setCell_other w ⟨b, k, none⟩ i u (by rintro rfl; exact hi (Or.inl hS)))⟩
theorem flatten_at {rows : List (List Value)} (h : ∀ r ∈ rows, r.length = sz) : ∀ {j k : Nat} {r : List Value} {u : Value}, rows[j]? = some r → r[k]? = some u → rows.flatten[j * sz + k]? = some u := by
  induction rows with
  | nil => intro j k r u hr _; simp at hr
  | cons y rows ih =>
    intro j k r u hr hk
    have hy := h y (by simp)
    cases j with
    | zero =>
      simp only [List.getElem?_cons_zero, Option.some.injEq] at hr
      subst hr
      rw [List.flatten_cons, List.getElem?_append_left (by have := (List.getElem?_eq_some_iff.1 hk).1; omega)]
      simpa using hk
    | succ j =>
      simp only [List.getElem?_cons_succ] at hr
      rw [List.flatten_cons, List.getElem?_append_right (by rw [hy, Nat.succ_mul]; omega), hy, show (j + 1) * sz + k - sz = j * sz + k from by rw [Nat.succ_mul]; omega]
      exact ih (fun r hr => h r (by simp [hr])) hr hk
/-- What it reads as. -/
theorem Acc.off (h : Acc R S0 e sz base w v xs) (hsm : xs.length * sz ≤ 281474976710656) : ∃ a c, v = .slice a xs.length c ∧ (∀ ad, a = some ad → base ≤ ad.block) ∧ Rd R sz w ⟨a, xs.length, c⟩ xs := by
  obtain ⟨rows, h1, h2, h3, h4⟩ := h.ex
  rcases h3.2 with ⟨rfl, h0⟩ | ⟨g, cap, cur, rfl, hb, hh, _⟩
  · have : xs = [] := List.eq_nil_of_length_eq_zero h0
    subst this
    exact ⟨none, 0, rfl, (fun _ e => by cases e), rd_nil0 _ _ _ _ _⟩
  · refine ⟨_, cap, rfl, (fun ad e => by cases e; exact hb), ⟨rfl, hsm, fun j x hx => ?_⟩⟩
    have hj := (List.getElem?_eq_some_iff.1 hx).1
    obtain ⟨cs, hcs⟩ : ∃ cs, rows[j]? = some cs := ⟨rows[j], List.getElem?_eq_getElem (by omega)⟩
    have hl := h2 cs (List.mem_of_getElem? hcs)
    refine ⟨g, 0, cs, rfl, (Array.getElem?_eq_some_iff.1 hh).1, hl, (h4 j x cs hx hcs).now, fun k u hk => ?_⟩
    have := h3.cells (g := g) rfl (j * sz + k) u (flatten_at h2 hcs hk)
    rw [show (⟨g, 0, none⟩ : Addr).add (j * sz + k) = ⟨g, j * sz + k, none⟩ from by unfold Addr.add; split <;> simp_all] at this
    simpa using this
/-- What it reads as, wherever older blocks are written. -/
theorem Acc.fr {B : Nat} (h : Acc R (fun k => k < B) e sz base w v xs) (hB : B ≤ base) (hsm : xs.length * sz ≤ 281474976710656) : ∃ s : Sl, v = .slice s.a s.n s.c ∧ s.n = xs.length ∧ Fr (fun W => Rd R sz W s xs) B w := by
  obtain ⟨rows, h1, h2, h3, h4⟩ := h.ex
  rcases h3.2 with ⟨rfl, h0⟩ | ⟨g, cap, cur, rfl, hb, hh, _⟩
  · have : xs = [] := List.eq_nil_of_length_eq_zero h0
    subst this
    exact ⟨⟨none, 0, 0⟩, rfl, rfl, fun w' _ _ => rd_nil0 _ _ _ _ _⟩
  · have hglt := (Array.getElem?_eq_some_iff.1 hh).1
    refine ⟨⟨_, xs.length, cap⟩, rfl, rfl, fun w' hs hk => ⟨rfl, hsm, fun j x hx => ?_⟩⟩
    have hj := (List.getElem?_eq_some_iff.1 hx).1
    obtain ⟨cs, hcs⟩ : ∃ cs, rows[j]? = some cs := ⟨rows[j], List.getElem?_eq_getElem (by omega)⟩
    have hl := h2 cs (List.mem_of_getElem? hcs)
    refine ⟨g, 0, cs, rfl, Nat.lt_of_lt_of_le hglt hs, hl, h4 j x cs hx hcs w' hs (fun i hi hS => hk i (by simp only [not_or] at hS; omega) hi), fun k u hku => ?_⟩
    have := h3.cells (g := g) rfl (j * sz + k) u (flatten_at h2 hcs hku)
    rw [show (⟨g, 0, none⟩ : Addr).add (j * sz + k) = ⟨g, j * sz + k, none⟩ from by unfold Addr.add; split <;> simp_all] at this
    rw [Nat.zero_add, ← this]
    unfold World.cell?
    simp only [hk g (by omega) hglt]
/-- One element more: what the append's law leaves. -/
theorem Acc.snoc {rows : List (List Value)} (h1 : rows.length = xs.length) (h2 : ∀ r ∈ rows, r.length = sz)
    (h4 : ∀ (j : Nat) (x : α) (cs : List Value), xs[j]? = some x → rows[j]? = some cs → Off (fun w' => R w' x cs) (fun k => S0 k ∨ some k = v.ownBlock) w) {w2 : World} {g cap : Nat} {x : α} {cs : List Value} (hcs : cs.length = sz)
    (hrow : w2.ownsRow base e sz (.slice (some ⟨g, 0, none⟩) (xs.length + 1) cap) (xs.length + 1) (rows.flatten ++ cs))
    (hg : w.grownBy w2 v.ownBlock) (hat : v.ownBlock = some g ∨ w.heap.size ≤ g) (hx : Off (fun w' => R w' x cs) (fun k => S0 k ∨ some k = v.ownBlock) w) :
    Acc R S0 e sz base w2 (.slice (some ⟨g, 0, none⟩) (xs.length + 1) cap) (xs ++ [x]) := by
  refine ⟨rows ++ [cs], by simp [h1], fun r hr => ?_, ?_, fun j y ds hy hds => ?_⟩
  · rcases List.mem_append.1 hr with hr | hr
    · exact h2 r hr
    · simp at hr; rw [hr]; exact hcs
  · simpa using hrow
  · have key : ∀ {y : α} {ds : List Value}, Off (fun w' => R w' y ds) (fun k => S0 k ∨ some k = v.ownBlock) w → Off (fun w' => R w' y ds) (fun k => S0 k ∨ some k = some g) w2 := fun ho => by
      rcases hat with hat | hat
      · rw [hat] at ho hg
        exact ho.on hg.size (fun k hlt hS => hg.block k hlt (fun e => hS (Or.inr e)))
      · exact ho.moved hg hat
    by_cases hj : j < xs.length
    · rw [List.getElem?_append_left hj] at hy
      rw [List.getElem?_append_left (by omega)] at hds
      exact key (h4 j y ds hy hds)
    · have e1 : j = xs.length := by
        have := (List.getElem?_eq_some_iff.1 hy).1
        simp at this
        omega
      subst e1
      simp at hy
      rw [List.getElem?_append_right (by omega), h1] at hds
      simp at hds
      subst hy hds
      exact key hx
end
/-- A flat row of the call's own, read. -/
theorem own_fr {α : Type} {f : α → List Value} {sz : Nat} (hf : ∀ x, (f x).length = sz) {w : World} {base : Nat} {e : TypeId} {v : Value} {xs : List α} {n : Nat} (hn : xs.length = n) (hsm : n * sz ≤ 281474976710656)
    (h : w.ownsRow base e sz v n (xs.flatMap f)) : ∃ s : Sl, v = .slice s.a s.n s.c ∧ s.n = n ∧ (∀ ad, s.a = some ad → base ≤ ad.block) ∧ Fr (fun W => Rd (encR f) sz W s xs) base w := by
  subst hn
  obtain ⟨a, c, hv, hr, hbb⟩ := own_rd hf hsm h
  refine ⟨⟨a, xs.length, c⟩, hv, rfl, hbb, fun w' hs hk => ⟨rfl, hsm, fun j x hx => ?_⟩⟩
  obtain ⟨b, o, cs, ha, hlt, hl, hR, hc⟩ := hr.cells j x hx
  have hb := hbb _ ha
  refine ⟨b, o, cs, ha, Nat.lt_of_lt_of_le hlt hs, hl, hR, fun k u hu => ?_⟩
  have hh := hk b hb hlt
  rw [← hc k u hu]
  unfold World.cell?
  simp only [hh]
theorem flatMap_ints (xs : List Int) : xs.flatMap (fun x : Int => [Value.int .i64 x]) = xs.map (Value.int .i64) := by
  induction xs with
  | nil => rfl
  | cons x xs ih => simp [ih]
theorem own_ints {w : World} {base : Nat} {v : Value} {xs : List Int} {n : Nat} (hn : xs.length = n) (hs : n ≤ 281474976710656) (h : w.ownsRow base 3 1 v n (xs.map (Value.int .i64))) :
    ∃ s : Sl, v = .slice s.a s.n s.c ∧ s.n = n ∧ (∀ ad, s.a = some ad → base ≤ ad.block) ∧ Fr (fun W => RdInts W s xs) base w := by
  rw [← flatMap_ints] at h
  exact own_fr (f := fun x : Int => [Value.int .i64 x]) (fun _ => rfl) hn (by simpa using hs) h
end Go.Proofs.YtenfnakhijobkaaGreat
namespace Go.Proofs.YtenfnakhijobkaaGreat
open Go.RowKit

theorem In_any (n lo hi : Int) (w : World) :
    Calls Tryz.prog 64 #[.int .i64 n, .int .i64 lo, .int .i64 hi] w fun e w' => e = .returned (.bool (inB n lo hi)) ∧ w = w' := by
  by_cases h : lo ≤ n
  · go_enter Tryz.func64, Tryz.ntmps64
    go_wp2
    go_ret
    exact ⟨ret_bool (by simp [inB]; omega), rfl⟩
  · go_enter Tryz.func64, Tryz.ntmps64
    go_wp2
    go_ret
    exact ⟨ret_bool (by simp [inB]; omega), rfl⟩
theorem Is_any (n lo hi : Int) (w : World) :
    Calls Tryz.prog 135 #[.int .i64 n, .agg #[.int .i64 lo, .int .i64 hi]] w fun e w' => e = .returned (.bool (inB n lo hi)) ∧ Below w.heap.size w w' := by
  go_enter Tryz.func135, Tryz.ntmps135
  go_wp2_with (go_at_call 64; refine (In_any _ _ _ _).mono ?_; rintro e w' ⟨rfl, rfl⟩)
  go_ret
  exact ⟨rfl, below_box _ _⟩
theorem Inside_any (lo hi most : Int) (w : World) :
    Calls Tryz.prog 107 #[.agg #[.int .i64 lo, .int .i64 hi], .int .i64 most] w fun e w' => e = .returned (.bool (Rg.upTo ⟨lo, hi⟩ most)) ∧ Below w.heap.size w w' := by
  go_enter Tryz.func107, Tryz.ntmps107
  go_wp2
  all_goals go_ret
  all_goals exact ⟨ret_bool (by simp [Rg.upTo]; omega), below_box _ _⟩
theorem Size06_any (lo hi : Int) (w : World) (h0 : 0 ≤ lo) (h1 : lo ≤ hi) (h2 : hi ≤ 1000) :
    Calls Tryz.prog 136 #[.agg #[.int .i64 lo, .int .i64 hi]] w fun e w' => e = .returned (.int .i64 (hi - lo + 1)) ∧ Below w.heap.size w w' := by
  go_enter Tryz.func136, Tryz.ntmps136
  go_wp2
  go_ret
  exact ⟨rfl, below_box _ _⟩
set_option maxHeartbeats 1000000 in
theorem IsPlace_any (v : LoftV) (l : LoftD) (s : Sl) (p : List Int) (w : World) (h : RdLoft w v l) (hp : RdInts w s p) :
    Calls Tryz.prog 146 #[.agg v.cs, .slice s.a s.n s.c] w fun e w' => e = .returned (.bool (isPlace l p)) ∧ Below w.heap.size w w' := by
  obtain ⟨vl, ⟨aa, an, ac⟩, ⟨ba, bn, bc⟩, ⟨ca, cn, cc⟩, ⟨pa, pn, pc⟩, ⟨wa, wn, wc⟩⟩ := v
  obtain ⟨sa, sn, sc⟩ := s
  have H := Lib.hid h
  have HP := Lib.hid hp
  have hn1 : sn ≤ 281474976710656 := by have := hp.small; simp at this; omega
  have hn2 : bn ≤ 281474976710656 := h.nle.2.1
  have hn3 : cn ≤ 281474976710656 := h.nle.2.2.1
  have HL : Hid (p.length = sn) := hp.len
  have HLs : Hid (l.shelves.length = bn) := h.shelves.len
  have HLc : Hid (l.cakes.length = cn) := h.cakes.len
  clear h hp
  by_cases hlen : sn = cn
  case neg =>
    go_enter Tryz.func146, Tryz.ntmps146
    go_wp2
    go_ret
    refine ⟨ret_bool ?_, below_box _ _⟩
    have h1 := HL.out; have h2 := HLc.out
    simp [isPlace]; intro h3; omega
  have hlenb : ((sn : Int) != (cn : Int)) = false := by simp [hlen]
  have HE : Hid (sn = cn) := hlen
  clear hlen
  go_enter Tryz.func146, Tryz.ntmps146
  go_wp2
  go_loopw [5] (fun i wr => ∃ k : Nat, k ≤ sn ∧ i = .int .i64 k ∧ Hid ((p.take k).all (placeOk l p) = true) ∧ Below (w.heap.size + 1) (w.alloc (.cells (LoftV.cs ⟨vl, ⟨aa, an, ac⟩, ⟨ba, bn, bc⟩, ⟨ca, cn, cc⟩, ⟨pa, pn, pc⟩, ⟨wa, wn, wc⟩⟩) 28)) wr) (fun i _ => sn - (intOf i).toNat)
  case atStart => exact ⟨0, Nat.zero_le _, rfl, by simp [Hid], Below.refl _ _⟩
  case round =>
    obtain ⟨k, hk, rfl, hq, hb⟩ := hrel
    obtain ⟨wo, rfl⟩ : ∃ wo : World, wo = wr := ⟨_, rfl⟩
    have HB := Lib.hid hb
    have hbw : Below w.heap.size w wo := below_two (below_box _ _) hb (by omega)
    have HW := Lib.hid hbw
    have c2 := box_cell hb (by omega) 2 (.slice ba bn bc) rfl
    have c3 := box_cell hb (by omega) 3 (.slice ca cn cc) rfl
    have hsz := hb.size
    rw [World.size_alloc] at hsz
    clear hb hbw
    by_cases hlt : k < sn
    · obtain ⟨x, hx⟩ := at_of_lt HL.out hlt
      obtain ⟨b, o, ha, hbl, hc⟩ := (HP.out.below (encR_mono _) HW.out).int_at hx
      have HX := Lib.hid hx
      simp only at ha
      subst ha
      clear hx
      by_cases hin : inB x 0 (↑bn - 1) = true
      · have hinI := inB_iff.1 hin
        obtain ⟨xn, rfl⟩ := Int.eq_ofNat_of_zero_le hinI.1
        have hxlt : xn < bn := by omega
        obtain ⟨y, hy⟩ := at_of_lt HLs.out hxlt
        obtain ⟨b2, o2, ha2, hbl2, hr2, _⟩ := H.out.shelves.board_at hy
        have HR2 := Lib.hid hr2
        clear hr2
        simp only at ha2
        subst ha2
        have HR : Hid (roomOf l xn = y.room) := by simp [Hid, roomOf, gI_nat, hy]
        clear hy hinI
        go_wp2
        have c2' := fun x : After wo => At.cell c2 x
        have hc' := fun x : After wo => At.cell hc x
        refine wp_region_after (by kernel_rfl) (by kernel_rfl) ?_
        repeat (go_big_quiet_step ((go_at_call 64; exact after_same (In_any _ _ _ _))))
        refine wpQuiet_nil ?_
        intro w2 hb2
        have HB2 : Hid (Below (w.heap.size + 1) _ w2) := HB.out.trans (hb2.mono (by omega))
        have HW2 : Hid (Below w.heap.size w w2) := HW.out.trans (hb2.mono HW.out.size)
        have hs2 := hb2.size
        clear c2' hc' hb2
        go_wp2
        go_loopw [6, 7] (fun c j wr => ∃ q : Nat, q ≤ sn ∧ j = .int .i64 q ∧ c = .int .i64 (cnt (p.take q) xn) ∧ Below w2.heap.size w2 wr) (fun _ j _ => sn - (intOf j).toNat)
        case atStart => exact ⟨0, Nat.zero_le _, rfl, by simp [cnt], Below.refl _ _⟩
        case round =>
          obtain ⟨q, hq2, rfl, rfl, hb3⟩ := hrel
          have hn0 := cnt_nonneg (p.take q) xn
          have hnl : cnt (p.take q) xn ≤ 281474976710656 := by have := cnt_le (p.take q) xn; have h9 := List.length_take_le q p; omega
          have HB3 := Lib.hid hb3
          have HW3 : Hid (Below w.heap.size w wr) := HW2.out.trans (hb3.mono (by omega))
          have hs3 := hb3.size
          clear hb3
          have d2 := box_cell (HB2.out.trans (HB3.out.mono (by omega))) (by omega) 2 (.slice (some ⟨b2, o2, none⟩) bn bc) rfl
          by_cases hql : q < sn
          · obtain ⟨z, hz⟩ := at_of_lt HL.out hql
            obtain ⟨b', o', ha', hbl', hcz⟩ := (HP.out.below (encR_mono _) HW3.out).int_at hz
            obtain ⟨b'', o'', ha'', hbl'', hcx⟩ := (HP.out.below (encR_mono _) HW3.out).int_at HX.out
            simp only [Option.some.injEq, Addr.mk.injEq, and_true] at ha' ha''
            obtain ⟨rfl, rfl⟩ := ha'
            obtain ⟨rfl, rfl⟩ := ha''
            have HC := Lib.hid (cnt_take (xn : Int) hz)
            clear hz
            go_wp2
            have hc1 := fun x : After wr => At.cell hcz x
            have hc2 := fun x : After wr => At.cell hcx x
            refine wp_region_after (by kernel_rfl) (by kernel_rfl) ?_
            repeat (go_big_quiet_step (fail))
            refine wpQuiet_nil ?_
            intro w4 hb4
            have HB4 : Hid (Below w2.heap.size w2 w4) := HB3.out.trans (hb4.mono (by omega))
            clear hb4
            by_cases hzx : z = xn
            · subst hzx
              go_wp2
              go_roundw
              case rel => exact ⟨q + 1, by omega, by go_num, by rw [HC.out, if_pos rfl], HB4.out⟩
              case measure => simp [intOf]; omega
            · have hzb : (z == (xn : Int)) = false := by simp [hzx]
              have HZ := Lib.hid hzx
              clear hzx
              go_wp2
              go_roundw
              case rel => exact ⟨q + 1, by omega, by go_num, by rw [HC.out, if_neg HZ.out]; simp, HB4.out⟩
              case measure => simp [intOf]; omega
          · obtain rfl : q = sn := by omega
            obtain ⟨b'', o'', ha'', hbl'', hcx⟩ := (HP.out.below (encR_mono _) HW3.out).int_at HX.out
            simp only [Option.some.injEq, Addr.mk.injEq, and_true] at ha''
            obtain ⟨rfl, rfl⟩ := ha''
            have hr3 : wr.cell? ⟨b2, o2 + xn * 2, none⟩ = some (.int .i64 y.room) := lift HW3.out HR2.out
            rw [take_len HL.out] at hn0 hnl ⊢
            go_wp2
            have hc1 := fun x : After wr => At.cell hr3 x
            have hc2 := fun x : After wr => At.cell hcx x
            have hc3 := fun x : After wr => At.cell d2 x
            refine wp_region_after (by kernel_rfl) (by kernel_rfl) ?_
            repeat (go_big_quiet_step (fail))
            refine wpQuiet_nil ?_
            intro w4 hb4
            have HB4 : Hid (Below (w.heap.size + 1) _ w4) := (HB2.out.trans (HB3.out.mono (by omega))).trans (hb4.mono (by omega))
            have HW4 : Hid (Below w.heap.size w w4) := HW3.out.trans (hb4.mono (by omega))
            clear hb4
            by_cases hroom : y.room < cnt p xn
            · go_wp2
              go_ret
              refine ⟨ret_bool ?_, HW4.out⟩
              symm
              have h1 : p.all (placeOk l p) = false := all_of_at _ HX.out (by simp [placeOk, HR.out]; intro _; omega)
              simp [isPlace, h1]
            · go_wp2
              go_roundw
              case rel => exact ⟨k + 1, by omega, by go_num, by
                have h1 : (p.take k).all (placeOk l p) = true := hq
                have h2 := HLs.out
                show (p.take (k + 1)).all (placeOk l p) = true
                rw [take_all _ HX.out, h1, placeOk, HR.out, h2, hin]
                simp; omega, HB4.out⟩
              case measure => simp [intOf]; omega
      · have hinb : inB x 0 (↑bn - 1) = false := by simpa using hin
        have HI := Lib.hid hinb
        clear hin
        go_wp2
        have c2' := fun x : After wo => At.cell c2 x
        have hc' := fun x : After wo => At.cell hc x
        refine wp_region_after (by kernel_rfl) (by kernel_rfl) ?_
        repeat (go_big_quiet_step ((go_at_call 64; exact after_same (In_any _ _ _ _))))
        refine wpQuiet_nil ?_
        intro w2 hb2
        have HW2 : Hid (Below w.heap.size w w2) := HW.out.trans (hb2.mono HW.out.size)
        clear c2' hc' hb2
        go_wp2
        go_ret
        refine ⟨ret_bool ?_, HW2.out⟩
        symm
        have h2 := HLs.out
        have h1 : p.all (placeOk l p) = false := all_of_at _ HX.out (by simp only [placeOk, h2, HI.out]; rfl)
        simp [isPlace, h1]
    · have HD : Hid (p.all (placeOk l p) = true) := by
        have e : k = sn := by omega
        have h1 : (p.take k).all (placeOk l p) = true := hq
        rw [e, take_len HL.out] at h1
        exact h1
      go_wp2
      go_ret
      refine ⟨ret_bool ?_, HW.out⟩
      have h1 := HD.out; have h2 := HL.out; have h3 := HLc.out; have h4 := HE.out
      simp only [isPlace, h1, Bool.and_true]
      symm; simp; omega
end Go.Proofs.YtenfnakhijobkaaGreat
namespace Go.Proofs.YtenfnakhijobkaaGreat
open Go.RowKit

/-- A truth's cells. -/
structure TruthV where
  air : Sl
  water : Sl
abbrev TruthV.cs (v : TruthV) : Array Value := #[.slice v.air.a v.air.n v.air.c, .slice v.water.a v.water.n v.water.c]
structure RdTruth (w : World) (v : TruthV) (t : TruthD) : Prop where
  air : RdInts w v.air t.air
  water : RdInts w v.water t.water
theorem RdTruth.below {w w' : World} {v : TruthV} {t : TruthD} (h : RdTruth w v t) (hb : Below w.heap.size w w') : RdTruth w' v t :=
  ⟨h.air.below (encR_mono _) hb, h.water.below (encR_mono _) hb⟩
def truthR (w : World) (t : TruthD) (cs : List Value) : Prop := ∃ v : TruthV, cs = v.cs.toList ∧ RdTruth w v t
theorem truthR_mono : Mono truthR := fun _ _ _ _ hb ⟨v, e, h⟩ => ⟨v, e, h.below hb⟩

set_option maxHeartbeats 1000000 in
theorem Left06_any (v : LoftV) (l : LoftD) (tv : TruthV) (t : TruthD) (hl : LOk l) (ht : TOk l t) (s k : Nat) (bd : BoardD) (ck : CakeD) (hs : l.shelves[s]? = some bd) (hk : l.cakes[k]? = some ck) (come : Nat) (hcome : ck.come = come) (water : Int) (hwat : t.water[k]? = some water) (n : Nat) :
    ∀ (w : World) (day : Int) (hday : day = (come : Int) - 1 + n) (h : RdLoft w v l) (hT : RdTruth w tv t) (hn : come + n ≤ l.air.length),
    Calls Tryz.prog 140 #[.agg v.cs, .agg tv.cs, .int .i64 s, .int .i64 k, .int .i64 day] w fun e w' => e = .returned (.int .i64 (leftN water bd.draft t.air come n)) ∧ Below w.heap.size w w' := by
  obtain ⟨vl, ⟨aa, an, ac⟩, ⟨ba, bn, bc⟩, ⟨ca, cn, cc⟩, ⟨pa, pn, pc⟩, ⟨wa, wn, wc⟩⟩ := v
  obtain ⟨⟨ta, tn, tc⟩, ⟨ua, un, uc⟩⟩ := tv
  have HK := Lib.hid hk
  have HS := Lib.hid hs
  have HWAT := Lib.hid hwat
  have HC := Lib.hid hcome
  have hal := hl.air
  have hl5 := hl.last5
  have hal6 : l.air.length ≤ 6 := by omega
  clear hcome hwat hal hl5
  have hlb := lt_of_at hs
  have hlk := lt_of_at hk
  have hlb3 := hl.shelves3
  have hlk5 := hl.cakes5
  have hdr := (hl.shelves bd (List.mem_of_getElem? hs)).2.2
  have hwb := ht.water water (List.mem_of_getElem? HWAT.out)
  clear hs hk
  induction n with
  | zero =>
    intro w day hday h hT hn
    have hlt : day < (come : Int) := by omega
    clear hday
    obtain ⟨b, o, ha, hbl, hc1, _⟩ := h.cakes.cake_at HK.out
    rw [HC.out] at hc1
    obtain ⟨b2, o2, ha2, hbl2, hc2⟩ := hT.water.int_at HWAT.out
    have e1 : l.cakes.length = cn := h.cakes.len
    have e2 : t.water.length = un := hT.water.len
    have e3 := ht.nw
    have hkc : k < cn := by omega
    have hku : k < un := by omega
    clear e1 e2 e3
    simp only at ha ha2
    subst ha ha2
    go_enter Tryz.func140, Tryz.ntmps140
    go_wp2
    go_ret
    exact ⟨rfl, (below_box _ _).alloc (by simp) _⟩
  | succ n ih =>
    intro w day hday h hT hn
    obtain ⟨dn, rfl⟩ : ∃ dn : Nat, day = dn := ⟨come + n, by omega⟩
    have hdn : dn = come + n := by omega
    have HDN := Lib.hid hday
    have hge : (come : Int) ≤ dn := by omega
    clear hday
    obtain ⟨b, o, ha, hbl, hc1, _⟩ := h.cakes.cake_at HK.out
    rw [HC.out] at hc1
    obtain ⟨x, hx⟩ : ∃ x, t.air[come + n]? = some x := ⟨_, List.getElem?_eq_getElem (by have := ht.na; omega)⟩
    obtain ⟨b2, o2, ha2, hbl2, hc2⟩ := hT.air.int_at hx
    obtain ⟨b3, o3, ha3, hbl3, _, hc3⟩ := h.shelves.board_at HS.out
    have hxb := ht.air x (List.mem_of_getElem? hx)
    have hN := leftN_bd (air := t.air) (come := come) hwb hdr ht.air n
    have e1 : l.cakes.length = cn := h.cakes.len
    have e2 : t.air.length = tn := hT.air.len
    have e3 : l.shelves.length = bn := h.shelves.len
    have e4 := ht.na
    rw [← hdn] at hc2
    have hkc : k < cn := by omega
    have hku : dn < tn := by omega
    have hkb : s < bn := by omega
    have hdn9 : dn ≤ 6 := by omega
    have HR : Hid (leftN water bd.draft t.air come (n + 1) = max 0 (leftN water bd.draft t.air come n - x - bd.draft)) := by
      show _ = _
      rw [leftN, List.getD_eq_getElem?_getD, hx]; rfl
    have IH := Lib.hid ih
    have HN3 := Lib.hid hn
    clear e1 e2 e3 e4 hx ih hdn hn
    simp only at ha ha2 ha3
    subst ha ha2 ha3
    go_enter Tryz.func140, Tryz.ntmps140
    go_wp2
    obtain ⟨W1, hNW1, BX, hW1, hzW1⟩ := Box.named w (LoftV.cs ⟨vl, ⟨aa, an, ac⟩, ⟨some ⟨b3, o3, none⟩, bn, bc⟩, ⟨some ⟨b, o, none⟩, cn, cc⟩, ⟨pa, pn, pc⟩, ⟨wa, wn, wc⟩⟩) 28
    rw [hNW1]
    clear hNW1
    rw [show w.heap.size + 1 = W1.heap.size from hzW1.out.symm]
    obtain ⟨W2, hNW2, BX2, hW2, hzW2⟩ := Box.named W1 (TruthV.cs ⟨⟨some ⟨b2, o2, none⟩, tn, tc⟩, ⟨ua, un, uc⟩⟩) 156
    rw [hNW2]
    clear hNW2
    have hw2 : Below w.heap.size w W2 := hW1.trans (hW2.mono hW1.size)
    have f0 := (BX.lift hW2).cell 0 (.int .i64 vl) rfl
    have f1 := (BX.lift hW2).cell 1 (.slice aa an ac) rfl
    have f2 := (BX.lift hW2).cell 2 (.slice (some ⟨b3, o3, none⟩) bn bc) rfl
    have f3 := (BX.lift hW2).cell 3 (.slice (some ⟨b, o, none⟩) cn cc) rfl
    have f4 := (BX.lift hW2).cell 4 (.slice pa pn pc) rfl
    have f5 := (BX.lift hW2).cell 5 (.slice wa wn wc) rfl
    have g0 := BX2.cell 0 (.slice (some ⟨b2, o2, none⟩) tn tc) rfl
    have g1 := BX2.cell 1 (.slice ua un uc) rfl
    have k1 := lift hw2 hc2
    have k2 := lift hw2 hc3
    have zz0 := fun x : After W2 => At.cell f0 x
    have zz1 := fun x : After W2 => At.cell f1 x
    have zz2 := fun x : After W2 => At.cell f2 x
    have zz3 := fun x : After W2 => At.cell f3 x
    have zz4 := fun x : After W2 => At.cell f4 x
    have zz5 := fun x : After W2 => At.cell f5 x
    have zz6 := fun x : After W2 => At.cell g0 x
    have zz7 := fun x : After W2 => At.cell g1 x
    have zz8 := fun x : After W2 => At.cell k1 x
    have zz9 := fun x : After W2 => At.cell k2 x
    refine wp_region_after (by kernel_rfl) (by kernel_rfl) ?_
    repeat (go_big_quiet_step ((go_at_call 140; exact after_call (IH.out _ _ (by have := HDN.out; omega) (h.below (hw2.trans ((At.below _).mono hw2.size))) (hT.below (hw2.trans ((At.below _).mono hw2.size))) (by have := HN3.out; omega)))))
    refine wpQuiet_nil ?_
    intro W3 hbW3
    clear zz0 zz1 zz2 zz3 zz4 zz5 zz6 zz7 zz8 zz9
    go_wp2
    all_goals go_ret
    all_goals exact ⟨ret_int (by rw [HR.out]; omega), hw2.trans (hbW3.mono hw2.size)⟩
end Go.Proofs.YtenfnakhijobkaaGreat
namespace Go.Proofs.YtenfnakhijobkaaGreat
open Go.RowKit
theorem bits_or_all : ∀ k, k < 6 → ∀ a, a < 32 → a < 2 ^ k → bits BinOp.or .i64 ((a : Nat) : Int) (wrap64 (2 ^ k)) = ((a + 2 ^ k : Nat) : Int) := by decide +kernel
theorem bits_or {a k : Nat} (hk : k < 5) (h : a < 2 ^ k) : bits BinOp.or .i64 (a : Int) (wrap64 (2 ^ k)) = ((a + 2 ^ k : Nat) : Int) :=
  bits_or_all k (by omega) a (Nat.lt_of_lt_of_le h (show 2 ^ k ≤ 2 ^ 5 from Nat.pow_le_pow_right (by omega) (by omega))) h

set_option maxHeartbeats 1000000 in
theorem Right06_any (v : LoftV) (l : LoftD) (tv : TruthV) (t : TruthD) (hl : LOk l) (ht : TOk l t) (w : World) (h : RdLoft w v l) (hT : RdTruth w tv t) :
    Calls Tryz.prog 91 #[.agg v.cs, .agg tv.cs] w fun e w' => e = .returned (.int .i64 (bitsN (l.weights.map (wRight l t)))) ∧ Below w.heap.size w w' := by
  obtain ⟨vl, ⟨aa, an, ac⟩, ⟨ba, bn, bc⟩, ⟨ca, cn, cc⟩, ⟨pa, pn, pc⟩, ⟨wa, wn, wc⟩⟩ := v
  obtain ⟨⟨ta, tn, tc⟩, ⟨ua, un, uc⟩⟩ := tv
  have HLw : Hid (l.weights.length = wn) := h.weights.len
  have hw5 : wn ≤ 5 := by have := hl.weights5; have := HLw.out; omega
  go_enter Tryz.func91, Tryz.ntmps91
  go_wp2
  obtain ⟨W1, hNW1, BX, hW1, hzW1⟩ := Box.named w (LoftV.cs ⟨vl, ⟨aa, an, ac⟩, ⟨ba, bn, bc⟩, ⟨ca, cn, cc⟩, ⟨pa, pn, pc⟩, ⟨wa, wn, wc⟩⟩) 28
  rw [hNW1]
  clear hNW1
  rw [show w.heap.size + 1 = W1.heap.size from hzW1.out.symm]
  obtain ⟨W2, hNW2, BX2, hW2, hzW2⟩ := Box.named W1 (TruthV.cs ⟨⟨ta, tn, tc⟩, ⟨ua, un, uc⟩⟩) 156
  rw [hNW2]
  clear hNW2
  have hw2 : Below w.heap.size w W2 := hW1.trans (hW2.mono hW1.size)
  go_loopw [5, 6] (fun r i wr => ∃ k : Nat, ∃ a : Nat, k ≤ wn ∧ i = .int .i64 k ∧ r = .int .i64 a ∧ a < 2 ^ k ∧ Hid (a = bitsN ((l.weights.take k).map (wRight l t))) ∧ Below W2.heap.size W2 wr) (fun _ i _ => wn - (intOf i).toNat)
  case atStart => exact ⟨0, 0, Nat.zero_le _, rfl, rfl, by simp, by simp [Hid, bitsN], Below.refl _ _⟩
  case round =>
    obtain ⟨k, a, hk, rfl, rfl, hak, hq, hb⟩ := hrel
    have hw := below_on hw2 hb
    have c5 := ((BX.lift hW2).lift hb).cell 5 (.slice wa wn wc) rfl
    by_cases hlt : k < wn
    · obtain ⟨x, hx⟩ := at_of_lt HLw.out hlt
      have HX := Lib.hid hx
      obtain ⟨kn, sn, dn, n, ck, bd, water, come, WK⟩ := hl.wOk ht (List.mem_of_getElem? hx)
      obtain ⟨b, o, ha, hbl, hc1, hc2, hc3, hc4⟩ := h.weights.weight_at hx
      obtain ⟨pb, po, hpa, hpl, hp1⟩ := h.put.int_at WK.put
      have e1 : l.put.length = pn := h.put.len
      have hkp : kn < pn := by have := lt_of_at WK.put; omega
      clear hx e1
      have hc1 := lift hw hc1
      have hc2 := lift hw hc2
      have hc3 := lift hw hc3
      have hc4 := lift hw hc4
      simp only at ha hpa
      rw [WK.cake] at hc1
      rw [WK.day] at hc2
      subst ha hpa
      have WD : Hid ((dn : Int) = (come : Int) - 1 + n) := by show _ = _; have := WK.hn; omega
      go_wp2
      obtain ⟨W3, hNW3, BX3, hW3, hzW3⟩ := Box.named wr #[.int .i64 (kn : Int), .int .i64 (dn : Int), .int .i64 x.water.lo, .int .i64 x.water.hi] 114
      rw [hNW3]
      clear hNW3
      have hw3 := hw.trans (hW3.mono hw.size)
      have hb3 := hb.trans (hW3.mono hb.size)
      have f0 := ((BX.lift hW2).lift hb3).cell 0 (.int .i64 vl) rfl
      have f1 := ((BX.lift hW2).lift hb3).cell 1 (.slice aa an ac) rfl
      have f2 := ((BX.lift hW2).lift hb3).cell 2 (.slice ba bn bc) rfl
      have f3 := ((BX.lift hW2).lift hb3).cell 3 (.slice ca cn cc) rfl
      have f4 := ((BX.lift hW2).lift hb3).cell 4 (.slice (some ⟨pb, po, none⟩) pn pc) rfl
      have f5 := ((BX.lift hW2).lift hb3).cell 5 (.slice (some ⟨b, o, none⟩) wn wc) rfl
      have g0 := (BX2.lift hb3).cell 0 (.slice ta tn tc) rfl
      have g1 := (BX2.lift hb3).cell 1 (.slice ua un uc) rfl
      have e0 := BX3.cell 0 (.int .i64 kn) rfl
      have e1 := BX3.cell 1 (.int .i64 dn) rfl
      have e2 := BX3.cell 2 (.int .i64 x.water.lo) rfl
      have e3 := BX3.cell 3 (.int .i64 x.water.hi) rfl
      have kp := lift hw3 hp1
      cases hwr : inB (leftN water bd.draft t.air come n) x.water.lo x.water.hi
      · have HWR : Hid (wRight l t x = false) := WK.right.trans hwr
        have zz0 := fun x : After W3 => At.cell f0 x
        have zz1 := fun x : After W3 => At.cell f1 x
        have zz2 := fun x : After W3 => At.cell f2 x
        have zz3 := fun x : After W3 => At.cell f3 x
        have zz4 := fun x : After W3 => At.cell f4 x
        have zz5 := fun x : After W3 => At.cell f5 x
        have zz6 := fun x : After W3 => At.cell g0 x
        have zz7 := fun x : After W3 => At.cell g1 x
        have zz8 := fun x : After W3 => At.cell e0 x
        have zz9 := fun x : After W3 => At.cell e1 x
        have zz10 := fun x : After W3 => At.cell e2 x
        have zz11 := fun x : After W3 => At.cell e3 x
        have zz12 := fun x : After W3 => At.cell kp x
        refine wp_region_after (by kernel_rfl) (by kernel_rfl) ?_
        repeat (go_big_quiet_step ((first | (go_at_call 140; exact after_call (Left06_any ⟨vl, ⟨aa, an, ac⟩, ⟨ba, bn, bc⟩, ⟨ca, cn, cc⟩, ⟨some ⟨pb, po, none⟩, pn, pc⟩, ⟨some ⟨b, o, none⟩, wn, wc⟩⟩ l ⟨⟨ta, tn, tc⟩, ⟨ua, un, uc⟩⟩ t hl ht sn kn bd ck WK.hbd WK.hck come WK.hcome water WK.hwater n _ _ WD.out (h.below (hw3.trans ((At.below _).mono hw3.size))) (hT.below (hw3.trans ((At.below _).mono hw3.size))) WK.fits)) | (go_at_call 135; exact after_call (call_b (Is_any _ _ _ _) hwr)))))
        refine wpQuiet_nil ?_
        intro W4 hbW4
        clear zz0 zz1 zz2 zz3 zz4 zz5 zz6 zz7 zz8 zz9 zz10 zz11 zz12
        go_wp2
        go_roundw
        case rel => exact ⟨k + 1, a, by omega, by go_num, rfl, Nat.lt_of_lt_of_le hak (Nat.pow_le_pow_right (by omega) (by omega)), by
          have h1 : a = _ := hq
          show a = bitsN ((l.weights.take (k + 1)).map (wRight l t))
          rw [take_map_snoc _ HX.out, bitsN_snoc, HWR.out, ← h1]; simp, hb3.trans (hbW4.mono hb3.size)⟩
        case measure => simp [intOf]; omega
      · have HWR : Hid (wRight l t x = true) := WK.right.trans hwr
        have zz0 := fun x : After W3 => At.cell f0 x
        have zz1 := fun x : After W3 => At.cell f1 x
        have zz2 := fun x : After W3 => At.cell f2 x
        have zz3 := fun x : After W3 => At.cell f3 x
        have zz4 := fun x : After W3 => At.cell f4 x
        have zz5 := fun x : After W3 => At.cell f5 x
        have zz6 := fun x : After W3 => At.cell g0 x
        have zz7 := fun x : After W3 => At.cell g1 x
        have zz8 := fun x : After W3 => At.cell e0 x
        have zz9 := fun x : After W3 => At.cell e1 x
        have zz10 := fun x : After W3 => At.cell e2 x
        have zz11 := fun x : After W3 => At.cell e3 x
        have zz12 := fun x : After W3 => At.cell kp x
        refine wp_region_after (by kernel_rfl) (by kernel_rfl) ?_
        repeat (go_big_quiet_step ((first | (go_at_call 140; exact after_call (Left06_any ⟨vl, ⟨aa, an, ac⟩, ⟨ba, bn, bc⟩, ⟨ca, cn, cc⟩, ⟨some ⟨pb, po, none⟩, pn, pc⟩, ⟨some ⟨b, o, none⟩, wn, wc⟩⟩ l ⟨⟨ta, tn, tc⟩, ⟨ua, un, uc⟩⟩ t hl ht sn kn bd ck WK.hbd WK.hck come WK.hcome water WK.hwater n _ _ WD.out (h.below (hw3.trans ((At.below _).mono hw3.size))) (hT.below (hw3.trans ((At.below _).mono hw3.size))) WK.fits)) | (go_at_call 135; exact after_call (call_b (Is_any _ _ _ _) hwr)))))
        refine wpQuiet_nil ?_
        intro W4 hbW4
        clear zz0 zz1 zz2 zz3 zz4 zz5 zz6 zz7 zz8 zz9 zz10 zz11 zz12
        have HOR := Lib.hid (bits_or (a := a) (k := k) (by omega) hak)
        go_wp2
        go_roundw
        case rel => exact ⟨k + 1, a + 2 ^ k, by omega, by go_num, by rw [HOR.out], by rw [Nat.pow_succ]; omega, by
          have h1 : a = _ := hq
          have h2 : ((l.weights.take k).map (wRight l t)).length = k := by have := HLw.out; simp; omega
          show a + 2 ^ k = bitsN ((l.weights.take (k + 1)).map (wRight l t))
          rw [take_map_snoc _ HX.out, bitsN_snoc, HWR.out, ← h1, h2]; simp, hb3.trans (hbW4.mono hb3.size)⟩
        case measure => simp [intOf]; omega
    · obtain rfl : wn = k := by omega
      have HQ : Hid (a = bitsN (l.weights.map (wRight l t))) := by
        have h1 : a = _ := hq
        rwa [take_len HLw.out] at h1
      clear hq
      go_wp2
      go_ret
      exact ⟨ret_int (by rw [HQ.out]), hw⟩
theorem full_all : ∀ n, n ≤ 5 → wrap64 (wrap64 (2 ^ n) - 1) = ((2 ^ n - 1 : Nat) : Int) := by decide +kernel
theorem Full06_any (v : LoftV) (l : LoftD) (hl : LOk l) (w : World) (h : RdLoft w v l) :
    Calls Tryz.prog 92 #[.agg v.cs] w fun e w' => e = .returned (.int .i64 ((2 ^ l.weights.length - 1 : Nat) : Int)) ∧ Below w.heap.size w w' := by
  obtain ⟨vl, ⟨aa, an, ac⟩, ⟨ba, bn, bc⟩, ⟨ca, cn, cc⟩, ⟨pa, pn, pc⟩, ⟨wa, wn, wc⟩⟩ := v
  have HLw : Hid (l.weights.length = wn) := h.weights.len
  have hw5 : wn ≤ 5 := by have := hl.weights5; have := HLw.out; omega
  go_enter Tryz.func92, Tryz.ntmps92
  go_wp2
  go_ret
  refine ⟨ret_int ?_, below_box _ _⟩
  rw [HLw.out, ← full_all wn hw5]
end Go.Proofs.YtenfnakhijobkaaGreat
