/- A loft at work, or the error. Conditions: the loft reads as it does. The day after which a cake is good, the sure day of a cake, the first cake that may get mouldy. Conditions: the loft reads as it does. The first cake that may get mouldy. Conditions: the loft and the placement read as they do. The program's small functions of layer 10. Conditions: the market reads as it does. The program's tests of all notes, and of all numbers of a plan. Conditions: the lists read as they do. The program's valid sales and chests. Conditions: the market reads as it does; at most five cakes. The program's valid chests. Conditions: the market reads as it does; at most five cakes. -/
import Derived.Test.YtenfnakhijobkaaGreatPb03
import Derived.Test.YtenfnakhijobkaaGreatPb04
import Derived.Test.YtenfnakhijobkaaGreatPb05
import Derived.Deep.LoopGhost
set_option linter.unusedVariables false
set_option linter.unusedSimpArgs false
namespace Go.Proofs.YtenfnakhijobkaaGreat
open Go.RowKit Go.Proofs.YtenfnakhijobkaaGreatW.PrintLast
theorem range_getD (x : List Int) (n : Nat) (h : x.length ≤ n) : ((List.range n).map fun j => x.getD j 0).take x.length = x := by
  refine List.ext_getElem? fun i => ?_
  by_cases hi : i < x.length
  · rw [List.getElem?_take_of_lt hi, List.getElem?_map, List.getElem?_range (by omega)]
    simp [hi, List.getD_eq_getElem?_getD]
  · rw [List.getElem?_eq_none (by simp; omega), List.getElem?_eq_none (by omega)]
theorem arr_inj {x y : List Int} {n : Nat} (hx : x.length ≤ n) (hl : x.length = y.length) (h : (List.range n).map (fun j => x.getD j 0) = (List.range n).map (fun j => y.getD j 0)) : x = y := by
  rw [← range_getD x n hx, h, hl, range_getD y n (by omega)]
theorem nums_neq (f g : Nat → Int) (w : World) : (binOp .neq 228 (.agg (numsC f)) (.agg (numsC g))).run Tryz.prog w = .ok (.bool (!decide ((List.range 11).map f = (List.range 11).map g))) w := by
  have h : (Op.equalIn 10000 228 (.agg (numsC f)) (.agg (numsC g))).run Tryz.prog w = .ok (decide ((List.range 11).map f = (List.range 11).map g)) w :=
    arr_eq (n := 11) (by kernel_rfl) ((List.range 11).map f) ((List.range 11).map g) (by simp) (by simp) w
  rw [run_neq_struct, h]; rfl
def AskedErr (w : World) (n : Int) (e : Ending) (w' : World) : Prop := e = .returned (.tuple #[.pointer none, .int .i64 n]) ∧ Below w.heap.size w w'
theorem asked_fault (v : LoftV) (l : LoftD) (w : World) (h : RdLoft w v l) (hne : loftFault l ≠ 0) (fv : Value) :
    Calls Tryz.prog 113 #[.agg v.cs, fv] w (AskedErr w (loftFault l)) := by
  obtain ⟨d, hd⟩ : ∃ d, loftFault l = d := ⟨_, rfl⟩
  have hC := fun w (h : RdLoft w v l) => CheckLoft_any v l w h
  rw [hd] at hne hC ⊢
  have hnb : (d != 0) = true := by simp [hne]
  have HC := Lib.hid hC
  clear hC hd
  obtain ⟨W0, hNW0, BX, hW0, hzW0⟩ := Box.named w (LoftV.cs v) 44
  have c0 := BX.cell 0 (.int .i64 v.last) rfl
  have c1 := BX.cell 1 (.slice v.air.a v.air.n v.air.c) rfl
  have c2 := BX.cell 2 (.slice v.shelves.a v.shelves.n v.shelves.c) rfl
  have c3 := BX.cell 3 (.slice v.cakes.a v.cakes.n v.cakes.c) rfl
  have c4 := BX.cell 4 (.slice v.put.a v.put.n v.put.c) rfl
  have c5 := BX.cell 5 (.slice v.weights.a v.weights.n v.weights.c) rfl
  have HR := Lib.hid (h.below hW0)
  go_enter Tryz.func113, Tryz.ntmps113
  go_wp2_with (go_at_call 148; refine (HC.out _ HR.out).mono ?_; rintro e w1 ⟨rfl, hb1⟩)
  go_ret2
  exact ⟨rfl, below_on hW0 hb1⟩
theorem asked_range (v : LoftV) (l : LoftD) (w : World) (h : RdLoft w v l) (h0 : loftFault l = 0) (g : Nat) (caps : Array Value) (hg : ∀ args w, (callFunc g args).run Tryz.prog w = .ok (.enter g args) w)
    (hf : ∀ w', Below w.heap.size w w' → Calls Tryz.prog g caps w' fun e w'' => e = .returned (.bool false) ∧ Below w'.heap.size w' w'') :
    Calls Tryz.prog 113 #[.agg v.cs, .func (.func g) #[] caps] w (AskedErr w 2) := by
  have hC := fun w (h : RdLoft w v l) => CheckLoft_any v l w h
  rw [h0] at hC
  have HC := Lib.hid hC
  have HF := Lib.hid hf
  clear hC h0 hf
  obtain ⟨W0, hNW0, BX, hW0, hzW0⟩ := Box.named w (LoftV.cs v) 44
  have c0 := BX.cell 0 (.int .i64 v.last) rfl
  have c1 := BX.cell 1 (.slice v.air.a v.air.n v.air.c) rfl
  have c2 := BX.cell 2 (.slice v.shelves.a v.shelves.n v.shelves.c) rfl
  have c3 := BX.cell 3 (.slice v.cakes.a v.cakes.n v.cakes.c) rfl
  have c4 := BX.cell 4 (.slice v.put.a v.put.n v.put.c) rfl
  have c5 := BX.cell 5 (.slice v.weights.a v.weights.n v.weights.c) rfl
  have HR := Lib.hid (h.below hW0)
  go_enter Tryz.func113, Tryz.ntmps113
  go_wp2_with (first | (go_at_call 148; refine (HC.out _ HR.out).mono ?_; rintro e w1 ⟨rfl, hb1⟩) | (refine (HF.out _ (below_on hW0 hb1)).mono ?_; rintro e w2 ⟨rfl, hb2⟩))
  go_ret2
  exact ⟨rfl, below_on (below_on hW0 hb1) hb2⟩
attribute [local go_sem] Oper.semAt_some
/-- A loft at work is returned. -/
def AskedOk (w : World) (v : LoftV) (l : LoftD) (e : Ending) (w' : World) : Prop := ∃ (B r : Nat) (s : Sl), e = .returned (.tuple #[.pointer (some ⟨B, 0, none⟩), .int .i64 0]) ∧ RdWork w' B v l s (lexT l) ∧
  w'.cell? ⟨B, 7, none⟩ = some (.map (some r)) ∧ Memo w' r l (lexT l) ∧ w.heap.size ≤ r ∧ Below w.heap.size w w'
def AskedOut (w : World) (v : LoftV) (l : LoftD) (e : Ending) (w' : World) : Prop := (lexT l = [] ∧ AskedErr w 11 e w') ∨ (lexT l ≠ [] ∧ AskedOk w v l e w')
abbrev workCs (v : LoftV) (vv : Value) (r : Nat) : Array Value := #[.int .i64 v.last, .slice v.air.a v.air.n v.air.c, .slice v.shelves.a v.shelves.n v.shelves.c, .slice v.cakes.a v.cakes.n v.cakes.c, .slice v.put.a v.put.n v.put.c, .slice v.weights.a v.weights.n v.weights.c, vv, .map (some r)]
theorem info228 : (Tryz.prog.info? 228).map (fun i => (i.zero, i.size, i.bytes)) = some (some (.agg #[.int .i64 0, .int .i64 0, .int .i64 0, .int .i64 0, .int .i64 0, .int .i64 0, .int .i64 0, .int .i64 0, .int .i64 0, .int .i64 0, .int .i64 0]), 11, 88) := by kernel_rfl
def dnT (l : LoftD) (pre : List (List Int)) : List TruthD := (pre.map (mkT l)).filter (tOk l)
theorem dnT_snoc (l : LoftD) (pre : List (List Int)) (x : List Int) : dnT l (pre ++ [x]) = dnT l pre ++ if tOk l (mkT l x) then [mkT l x] else [] := by
  unfold dnT
  rw [List.map_append, List.filter_append]
  by_cases h : tOk l (mkT l x) = true <;> simp [h]
theorem dnT_len (l : LoftD) (pre : List (List Int)) : (dnT l pre).length ≤ pre.length := by
  unfold dnT
  exact Nat.le_trans (List.length_filter_le _ _) (by simp)
theorem numsF_mkT (l : LoftD) (x : List Int) : numsF (mkT l x) = fun j => x.getD j 0 := by
  funext j
  simp [numsF, mkT]
/-- Between two rounds. -/
def AskI (v : LoftV) (l : LoftD) (r B : Nat) (W6 : World) (hi : Nat) (pre : List (List Int)) (W : World) : Prop :=
  ∃ vv, Box W B (workCs v vv r) 223 ∧ W.ownsRow hi 228 11 vv (dnT l pre).length ((dnT l pre).flatMap arrCs) ∧ W6.grownBy W (some B)
theorem grown_far {w A A' : World} {B : Nat} {row : Option Nat} (h : w.grownBy A (some B)) (hg : A.grownBy A' row) (hr : ∀ r, row = some r → w.heap.size ≤ r) : w.grownBy A' (some B) :=
  ⟨hg.os.trans h.os, hg.tape.trans h.tape, hg.output.trans h.output, Nat.le_trans h.size hg.size, fun i hi hne => (hg.block i (Nat.lt_of_lt_of_le hi h.size) (fun e => by have := hr _ e.symm; omega)).trans (h.block i hi hne)⟩
theorem AskI.abides {v : LoftV} {l : LoftD} {r B : Nat} {W6 : World} (hB : B < W6.heap.size) : AbidesR W6.heap.size (AskI v l r B W6) := by
  rintro hi pre A A' row ⟨vv, h1, h2, h3⟩ hg hr
  refine ⟨vv, h1.grown hg (fun e => by have := hr _ e; omega), h2.kept hg ?_, ⟨hg.os.trans h3.os, hg.tape.trans h3.tape, hg.output.trans h3.output, Nat.le_trans h3.size hg.size, fun i hi hne => (hg.block i (Nat.lt_of_lt_of_le hi h3.size) (fun e => by have := hr _ e.symm; omega)).trans (h3.block i hi hne)⟩⟩
  cases ho : vv.ownBlock with
  | none => exact Or.inl rfl
  | some b =>
    right
    intro e
    have h4 := h2.lt b ho
    have := hr b e.symm
    omega
set_option maxHeartbeats 4000000 in
set_option maxRecDepth 100000 in
theorem asked_full (v : LoftV) (l : LoftD) (w : World) (h : RdLoft w v l) (h0 : loftFault l = 0) (g : Nat) (caps : Array Value) (hg : ∀ args w, (callFunc g args).run Tryz.prog w = .ok (.enter g args) w)
    (hf : ∀ w', Below w.heap.size w w' → Calls Tryz.prog g caps w' fun e w'' => e = .returned (.bool true) ∧ Below w'.heap.size w' w'') :
    Calls Tryz.prog 113 #[.agg v.cs, .func (.func g) #[] caps] w (AskedOut w v l) := by
  have hl := LOk.of h0
  have hC := fun w (h : RdLoft w v l) => CheckLoft_any v l w h
  rw [h0] at hC
  have HC := Lib.hid hC
  have HF := Lib.hid hf
  clear hC h0 hf
  obtain ⟨W0, hNW0, BX, hW0, hzW0⟩ := Box.named w (LoftV.cs v) 44
  have c0 := BX.cell 0 (.int .i64 v.last) rfl
  have c1 := BX.cell 1 (.slice v.air.a v.air.n v.air.c) rfl
  have c2 := BX.cell 2 (.slice v.shelves.a v.shelves.n v.shelves.c) rfl
  have c3 := BX.cell 3 (.slice v.cakes.a v.cakes.n v.cakes.c) rfl
  have c4 := BX.cell 4 (.slice v.put.a v.put.n v.put.c) rfl
  have c5 := BX.cell 5 (.slice v.weights.a v.weights.n v.weights.c) rfl
  have HR := Lib.hid (h.below hW0)
  have hmm := @run_makeMap Tryz.prog
  obtain ⟨n, _⟩ : ∃ n : Nat, n = n := ⟨0, rfl⟩
  refine (callsIn_wide (n := n)).1 ?_
  refine callsIn_of_wp_marks Tryz.func113 rfl trivial ?_ rfl
  simp only [Tryz.ntmps113, List.size_toArray, List.length_cons, List.length_nil, Nat.reduceAdd, Nat.reduceSub, Array.replicate_succ, Array.replicate_zero, List.push_toArray, List.append_toArray, List.nil_append, List.cons_append]
  gi_wp2_with (first
    | (refine ⟨trivial, wideD _, ?_⟩
       gi_at_call 148
       refine (callsIn_wide.2 (HC.out _ HR.out)).mono ?_
       rintro e w1 ⟨rfl, hb1⟩)
    | (refine ⟨trivial, wideD _, ?_⟩
       refine (callsIn_wide.2 (HF.out _ (below_on hW0 hb1))).mono ?_
       rintro e w2 ⟨rfl, hb2⟩
       have d0 := ((BX.lift hb1).lift hb2).cell 0 (.int .i64 v.last) rfl; have d1 := ((BX.lift hb1).lift hb2).cell 1 (.slice v.air.a v.air.n v.air.c) rfl; have d2 := ((BX.lift hb1).lift hb2).cell 2 (.slice v.shelves.a v.shelves.n v.shelves.c) rfl; have d3 := ((BX.lift hb1).lift hb2).cell 3 (.slice v.cakes.a v.cakes.n v.cakes.c) rfl; have d4 := ((BX.lift hb1).lift hb2).cell 4 (.slice v.put.a v.put.n v.put.c) rfl; have d5 := ((BX.lift hb1).lift hb2).cell 5 (.slice v.weights.a v.weights.n v.weights.c) rfl
       obtain ⟨W3, hNW3, hbW3, hzW3, hmW3⟩ : ∃ W3, w2.alloc (.map #[] 0) = W3 ∧ Below w2.heap.size w2 W3 ∧ Hid (W3.heap.size = w2.heap.size + 1) ∧ W3.heap[w2.heap.size]? = some (.map #[] 0) := ⟨_, rfl, below_box _ _, World.size_alloc _ _, World.alloc_heap_new _ _⟩
       obtain ⟨W4, hNW4, BX4, hW4, hzW4⟩ := Box.named W3 (workCs v (.slice none 0 0) w2.heap.size) 223
       obtain ⟨W5, hNW5, BX5, hW5, hzW5⟩ := Box.named W4 #[.pointer (some ⟨W3.heap.size, 0, none⟩)] 189
       have f0 := ((((BX.lift hb1).lift hb2).lift hbW3).lift hW4 |>.lift hW5).cell 0 (.int .i64 v.last) rfl; have f1 := ((((BX.lift hb1).lift hb2).lift hbW3).lift hW4 |>.lift hW5).cell 1 (.slice v.air.a v.air.n v.air.c) rfl; have f2 := ((((BX.lift hb1).lift hb2).lift hbW3).lift hW4 |>.lift hW5).cell 2 (.slice v.shelves.a v.shelves.n v.shelves.c) rfl; have f3 := ((((BX.lift hb1).lift hb2).lift hbW3).lift hW4 |>.lift hW5).cell 3 (.slice v.cakes.a v.cakes.n v.cakes.c) rfl; have f4 := ((((BX.lift hb1).lift hb2).lift hbW3).lift hW4 |>.lift hW5).cell 4 (.slice v.put.a v.put.n v.put.c) rfl; have f5 := ((((BX.lift hb1).lift hb2).lift hbW3).lift hW4 |>.lift hW5).cell 5 (.slice v.weights.a v.weights.n v.weights.c) rfl)
    | (refine ⟨trivial, wideD _, ?_⟩
       gi_at_call 149
       refine (callsIn_wide.2 (truths_any v _)).mono ?_
       rintro e w6 ⟨rfl, rfl⟩
       obtain ⟨W6, hNW6, BX6, hW6, hzW6⟩ := Box.named W5 v.cs 44))
  clear c0 c1 c2 c3 c4 c5 hmm
  have hw2 := below_on (below_on hW0 hb1) hb2
  have hw3 := below_on hw2 hbW3
  have hw4 := below_on hw3 hW4
  have hw5 := below_on hw4 hW5
  have hw6 := below_on hw5 hW6
  have z3 : w2.heap.size < W3.heap.size := by have := hzW3.out; omega
  have z4 : W3.heap.size < W4.heap.size := by have := hzW4.out; omega
  have z5 : W4.heap.size < W5.heap.size := by have := hzW5.out; omega
  have z6 : W5.heap.size < W6.heap.size := by have := hzW6.out; omega
  have z2 := hw2.size
  have hbW6M : Below W3.heap.size W3 W6 := below_on (below_on hW4 hW5) hW6
  have BW6 := (BX4.lift hW5).lift hW6
  refine wpIn_iter (gf := 179) (lb := #[.pointer (some ⟨W5.heap.size, 0, none⟩)]) (enc := fun x => .agg (arrOf x)) (all := enumL l.rs) rfl (enters_of Tryz.func179 (by kernel_rfl) rfl) (truths_iter v l hl W5.heap.size W6 (h.below hw6) BX6) rfl
    (AskI v l w2.heap.size W3.heap.size W6) (fun _ => False) (AskI.abides (by omega)) (fun _ _ _ _ => trivial) (fun _ _ _ hx _ _ => hx)
    (fun hi W' _ _ hb => ⟨_, BW6.lift hb, World.ownsRow_nil _ _ _ _, grown_below hb _⟩) ?round ?done ?stop
  case stop => exact fun _ hx => hx.elim
  case round =>
    rintro lp hi m pre x W h1 h2 hI hpre
    have hxall : x ∈ enumL l.rs := hpre.subset (by simp)
    have htok := fits_tok hl (mem_enumL.1 hxall)
    have hplen : pre.length < 2000 := by
      have := hpre.length_le
      have := enumL_le hl
      simp at *
      omega
    obtain ⟨f, hf⟩ : ∃ f, (fun j => x.getD j 0) = f := ⟨_, rfl⟩
    have HF := Lib.hid hf
    simp only [arrOf, hf]
    clear hf
    obtain ⟨W7, hNW7, BX7, hW7, hzW7⟩ := Box.named W (numsC f) 228
    obtain ⟨vv, BV0, hown0, _⟩ := hI
    gi_wp2
    refine ⟨hW7, fun W8 hg8 ⟨_, _, _, hg⟩ => ?_⟩
    have s7 := hW7.size
    have s8 := hg8.size
    have BX8 := BX7.grown hg8 (fun e => by injection e; omega)
    have BV := (BV0.lift hW7).grown hg8 (fun e => by injection e; omega)
    have hown := (own_below hown0 hW7).kept hg8 (by
      cases ho : vv.ownBlock with
      | none => exact Or.inl rfl
      | some b => exact Or.inr (fun e => by have := hown0.lt b ho; injection e; omega))
    have hlt0 : ∀ b, vv.ownBlock = some b → hi ≤ b ∧ b < W.heap.size := hown0.lt
    have HLT0 := Lib.hid hlt0
    have HOWN := Lib.hid hown
    clear hown hown0 hlt0 BV0
    have hbW : Below w.heap.size w W8 := hw6.grown hg hw6.size (fun k e => by cases e; have := hw3.size; omega)
    have bX6 := below_on (below_on (below_on (below_on (below_on hb1 hb2) hbW3) hW4) hW5) hW6
    have BXL := (BX.lift bX6).grown hg (fun e => by injection e; omega)
    have a0 := BXL.cell 0 (.int .i64 v.last) rfl; have a1 := BXL.cell 1 (.slice v.air.a v.air.n v.air.c) rfl; have a2 := BXL.cell 2 (.slice v.shelves.a v.shelves.n v.shelves.c) rfl; have a3 := BXL.cell 3 (.slice v.cakes.a v.cakes.n v.cakes.c) rfl; have a4 := BXL.cell 4 (.slice v.put.a v.put.n v.put.c) rfl; have a5 := BXL.cell 5 (.slice v.weights.a v.weights.n v.weights.c) rfl
    have p7 := ((BX5.lift hW6).grown hg (fun e => by injection e; omega)).cell 0 (.pointer (some ⟨W3.heap.size, 0, none⟩)) rfl
    have n0 := BX8.cell 0 (.int .i64 (f 0)) rfl
    have n1 := BX8.cell 1 (.int .i64 (f 1)) rfl
    have n2 := BX8.cell 2 (.int .i64 (f 2)) rfl
    have n3 := BX8.cell 3 (.int .i64 (f 3)) rfl
    have n4 := BX8.cell 4 (.int .i64 (f 4)) rfl
    have n5 := BX8.cell 5 (.int .i64 (f 5)) rfl
    have n6 := BX8.cell 6 (.int .i64 (f 6)) rfl
    have n7 := BX8.cell 7 (.int .i64 (f 7)) rfl
    have n8 := BX8.cell 8 (.int .i64 (f 8)) rfl
    have n9 := BX8.cell 9 (.int .i64 (f 9)) rfl
    have n10 := BX8.cell 10 (.int .i64 (f 10)) rfl
    have hRt : ∀ y : After W8, Calls Tryz.prog 150 #[.agg v.cs, .agg (numsC f), .slice none 0 0] (At y) fun e w' => e = .returned (.bool (tOk l (mkT l x))) ∧ Below (At y).heap.size (At y) w' := fun y => by
      have := right_any v l (mkT l x) hl htok (At y) ((h.below hbW).below (At.below y))
      rw [numsF_mkT, HF.out] at this
      exact this
    have HDN : Hid (dnT l (pre ++ [x]) = dnT l pre ++ if tOk l (mkT l x) then [mkT l x] else []) := dnT_snoc l pre x
    obtain ⟨tk, htk⟩ : ∃ tk, tOk l (mkT l x) = tk := ⟨_, rfl⟩
    rw [htk] at hRt HDN
    have HRT := Lib.hid hRt
    clear hRt htk
    gi_wp2
    cases tk
    · have zz0 := fun x : After W8 => At.cell a0 x
      have zz1 := fun x : After W8 => At.cell a1 x
      have zz2 := fun x : After W8 => At.cell a2 x
      have zz3 := fun x : After W8 => At.cell a3 x
      have zz4 := fun x : After W8 => At.cell a4 x
      have zz5 := fun x : After W8 => At.cell a5 x
      have zz6 := fun x : After W8 => At.cell n0 x
      have zz7 := fun x : After W8 => At.cell n1 x
      have zz8 := fun x : After W8 => At.cell n2 x
      have zz9 := fun x : After W8 => At.cell n3 x
      have zz10 := fun x : After W8 => At.cell n4 x
      have zz11 := fun x : After W8 => At.cell n5 x
      have zz12 := fun x : After W8 => At.cell n6 x
      have zz13 := fun x : After W8 => At.cell n7 x
      have zz14 := fun x : After W8 => At.cell n8 x
      have zz15 := fun x : After W8 => At.cell n9 x
      have zz16 := fun x : After W8 => At.cell n10 x
      refine round_after ?_ (by kernel_rfl) (by kernel_rfl) (by kernel_rfl) ?_
      · rintro ⟨_, _, hq⟩; exact hq
      repeat (go_big_quiet_step ((go_at_call 150; exact after_call (HRT.out _))))
      refine wpQuiet_nil ?_
      intro W9 hbW9
      clear zz0 zz1 zz2 zz3 zz4 zz5 zz6 zz7 zz8 zz9 zz10 zz11 zz12 zz13 zz14 zz15 zz16
      gi_wp2
      exact ⟨KeepR.below hbW9 (by omega), vv, BV.lift hbW9, by rw [HDN.out]; simpa using own_below HOWN.out hbW9, grown_on hg (hbW9.mono (by omega))⟩
    · have hlen : (dnT l pre).length ≤ 2000 := Nat.le_trans (dnT_len _ _) (by omega)
      obtain ⟨sa, sc, rfl, hrd, hsab⟩ := own_rd (f := arrCs) (fun _ => rfl) (by omega) HOWN.out
      have hex : ∀ t ∈ dnT l pre, ∃ y ∈ pre, t = mkT l y := fun t ht => by
        obtain ⟨h1, h2⟩ := List.mem_filter.1 ht
        obtain ⟨y, hy, rfl⟩ := List.mem_map.1 h1
        exact ⟨y, hy, rfl⟩
      have HEX := Lib.hid hex
      clear hex
      have HDX : Hid ((dnT l (pre ++ [x])).length = (dnT l pre).length + 1 ∧ (dnT l (pre ++ [x])).flatMap arrCs = (dnT l pre).flatMap arrCs ++ (numsC f).toList) := by
        rw [HDN.out]
        refine ⟨by simp, ?_⟩
        rw [List.flatMap_append]
        simp only [if_true, List.flatMap_cons, List.flatMap_nil, List.append_nil]
        rw [arrCs, numsF_mkT, HF.out]
      obtain ⟨T, hT⟩ : ∃ T, dnT l pre = T := ⟨_, rfl⟩
      rw [hT] at BV hrd hlen HOWN HDX HEX HLT0
      clear hT HDN
      obtain ⟨N, hN⟩ : ∃ N, T.length = N := ⟨_, rfl⟩
      rw [hN] at BV hrd hlen HOWN HDX HLT0
      have HN := Lib.hid hN
      clear hN
      have b6 := BV.cell 6 (.slice sa N sc) rfl
      have HRD := Lib.hid hrd
      clear hrd
      have av4 : (Value.slice sa N sc).ownBlock ≠ some W4.heap.size := fun e => by have := HLT0.out _ e; omega
      have av3 : (Value.slice sa N sc).ownBlock ≠ some W3.heap.size := fun e => by have := HLT0.out _ e; omega
      have avx : (Value.slice sa N sc).ownBlock ≠ some W.heap.size := fun e => by have := HLT0.out _ e; omega
      obtain ⟨i0, hi0, hz0, hz1, hz2⟩ := info_parts info228
      have HI := Lib.hid hi0
      have HZ0 := Lib.hid hz0
      have HZ1 := Lib.hid hz1
      have HZ2 := Lib.hid hz2
      clear hi0 hz0 hz1 hz2
      have hml : N + 1 ≤ maxLen := by unfold maxLen; omega
      by_cases hn : N = 0
      · have hnb : ((N : Int) == 0) = true := by simp [hn]
        have HN0 := Lib.hid hn
        clear hn
        have zz0 := fun x : After W8 => At.cell a0 x
        have zz1 := fun x : After W8 => At.cell a1 x
        have zz2 := fun x : After W8 => At.cell a2 x
        have zz3 := fun x : After W8 => At.cell a3 x
        have zz4 := fun x : After W8 => At.cell a4 x
        have zz5 := fun x : After W8 => At.cell a5 x
        have zz6 := fun x : After W8 => At.cell n0 x
        have zz7 := fun x : After W8 => At.cell n1 x
        have zz8 := fun x : After W8 => At.cell n2 x
        have zz9 := fun x : After W8 => At.cell n3 x
        have zz10 := fun x : After W8 => At.cell n4 x
        have zz11 := fun x : After W8 => At.cell n5 x
        have zz12 := fun x : After W8 => At.cell n6 x
        have zz13 := fun x : After W8 => At.cell n7 x
        have zz14 := fun x : After W8 => At.cell n8 x
        have zz15 := fun x : After W8 => At.cell n9 x
        have zz16 := fun x : After W8 => At.cell n10 x
        have zz17 := fun x : After W8 => At.cell p7 x
        have zz18 := fun x : After W8 => At.cell b6 x
        refine round_after ?_ (by kernel_rfl) (by kernel_rfl) (by kernel_rfl) ?_
        · rintro ⟨_, _, hq⟩; exact hq
        repeat (go_big_quiet_step ((go_at_call 150; exact after_call (HRT.out _))))
        refine wpQuiet_nil ?_
        intro W9 hbW9
        clear zz0 zz1 zz2 zz3 zz4 zz5 zz6 zz7 zz8 zz9 zz10 zz11 zz12 zz13 zz14 zz15 zz16 zz17 zz18
        have hown9 := own_below HOWN.out hbW9
        have HOWN9 := Lib.hid hown9
        clear hown9
        have q7 := lift hbW9 p7
        have q6 := lift hbW9 b6
        have m0 := lift hbW9 n0
        have m1 := lift hbW9 n1
        have m2 := lift hbW9 n2
        have m3 := lift hbW9 n3
        have m4 := lift hbW9 n4
        have m5 := lift hbW9 n5
        have m6 := lift hbW9 n6
        have m7 := lift hbW9 n7
        have m8 := lift hbW9 n8
        have m9 := lift hbW9 n9
        have m10 := lift hbW9 n10
        have s9 := hbW9.size
        gi_wp2
        refine round_start (k := 11) (S := fun w' => w'.cell? ⟨W4.heap.size, 0, none⟩ = some (.pointer (some ⟨W3.heap.size, 0, none⟩)) ∧ w'.cell? ⟨W3.heap.size, 6, none⟩ = some (.slice sa N sc) ∧ w'.cell? ⟨W.heap.size, 0, none⟩ = some (.int .i64 (f 0)) ∧ w'.cell? ⟨W.heap.size, 1, none⟩ = some (.int .i64 (f 1)) ∧ w'.cell? ⟨W.heap.size, 2, none⟩ = some (.int .i64 (f 2)) ∧ w'.cell? ⟨W.heap.size, 3, none⟩ = some (.int .i64 (f 3)) ∧ w'.cell? ⟨W.heap.size, 4, none⟩ = some (.int .i64 (f 4)) ∧ w'.cell? ⟨W.heap.size, 5, none⟩ = some (.int .i64 (f 5)) ∧ w'.cell? ⟨W.heap.size, 6, none⟩ = some (.int .i64 (f 6)) ∧ w'.cell? ⟨W.heap.size, 7, none⟩ = some (.int .i64 (f 7)) ∧ w'.cell? ⟨W.heap.size, 8, none⟩ = some (.int .i64 (f 8)) ∧ w'.cell? ⟨W.heap.size, 9, none⟩ = some (.int .i64 (f 9)) ∧ w'.cell? ⟨W.heap.size, 10, none⟩ = some (.int .i64 (f 10))) (ds := [10]) #[false, false, false, false, false, false, false, false, false, false, false] ?_ (by kernel_rfl) (by kernel_rfl) rfl rfl ⟨q7, q6, m0, m1, m2, m3, m4, m5, m6, m7, m8, m9, m10⟩ (fun hHeld => ?_)
        · rintro ⟨_, _, hq⟩; exact hq
        obtain ⟨s0, s1, s2, s3, s4, s5, s6, s7, s8, s9, s10, s11, s12⟩ := hHeld
        refine take_ (i := 0) (N := some 51) (v := ?_) (a' := ?_) #[true, false, false, false, false, false, false, false, false, false, false] rfl rfl (by kernel_rfl) (fun _ _ _ h => h) (Or.inl ⟨by rfl, ?_⟩) ⟨s0, s1, s2, s3, s4, s5, s6, s7, s8, s9, s10, s11, s12⟩ ?_ ?_
        rotate_left
        · rintro w' ⟨zs0, zs1, zs2, zs3, zs4, zs5, zs6, zs7, zs8, zs9, zs10, zs11, zs12⟩
          go_simp
          with_reducible rfl
        rotate_left
        · simp only [Act.put, List.setIfInBounds_toArray, List.set_cons_zero, List.set_cons_succ, i64_w, i32_w]
          rfl
        refine take_ (i := 1) (N := some 52) (v := ?_) (a' := ?_) #[true, true, false, false, false, false, false, false, false, false, false] rfl rfl (by kernel_rfl) (fun _ _ _ h => h) (Or.inl ⟨by rfl, ?_⟩) ⟨s0, s1, s2, s3, s4, s5, s6, s7, s8, s9, s10, s11, s12⟩ ?_ ?_
        rotate_left
        · rintro w' ⟨zs0, zs1, zs2, zs3, zs4, zs5, zs6, zs7, zs8, zs9, zs10, zs11, zs12⟩
          go_simp
          with_reducible rfl
        rotate_left
        · simp only [Act.put, List.setIfInBounds_toArray, List.set_cons_zero, List.set_cons_succ, i64_w, i32_w]
          rfl
        refine pure_ (i := 2) (N := some 53) (v := ?_) (a' := ?_) #[true, true, true, false, false, false, false, false, false, false, false] rfl rfl (by kernel_rfl) (fun _ _ _ h => h) (Or.inl ⟨by rfl, ?_⟩) ?_ ?_
        rotate_left
        · intro w'
          go_simp
          with_reducible rfl
        rotate_left
        · simp only [Act.put, List.setIfInBounds_toArray, List.set_cons_zero, List.set_cons_succ, i64_w, i32_w]
          rfl
        refine pure_ (i := 3) (N := some 54) (v := ?_) (a' := ?_) #[true, true, true, true, false, false, false, false, false, false, false] rfl rfl (by kernel_rfl) (fun _ _ _ h => h) (Or.inl ⟨by rfl, ?_⟩) ?_ ?_
        rotate_left
        · intro w'
          go_simp
          with_reducible rfl
        rotate_left
        · simp only [Act.put, List.setIfInBounds_toArray, List.set_cons_zero, List.set_cons_succ, i64_w, i32_w]
          rfl
        refine take_ (i := 4) (N := some 55) (v := ?_) (a' := ?_) #[true, true, true, true, true, false, false, false, false, false, false] rfl rfl (by kernel_rfl) (fun _ _ _ h => h) (Or.inl ⟨by rfl, ?_⟩) ⟨s0, s1, s2, s3, s4, s5, s6, s7, s8, s9, s10, s11, s12⟩ ?_ ?_
        rotate_left
        · rintro w' ⟨zs0, zs1, zs2, zs3, zs4, zs5, zs6, zs7, zs8, zs9, zs10, zs11, zs12⟩
          go_simp
          with_reducible rfl
        rotate_left
        · simp only [Act.put, List.setIfInBounds_toArray, List.set_cons_zero, List.set_cons_succ, i64_w, i32_w]
          rfl
        refine take_ (i := 5) (N := some 56) (v := ?_) (a' := ?_) #[true, true, true, true, true, true, false, false, false, false, false] rfl rfl (by kernel_rfl) (fun _ _ _ h => h) (Or.inl ⟨by rfl, ?_⟩) ⟨s0, s1, s2, s3, s4, s5, s6, s7, s8, s9, s10, s11, s12⟩ ?_ ?_
        rotate_left
        · rintro w' ⟨zs0, zs1, zs2, zs3, zs4, zs5, zs6, zs7, zs8, zs9, zs10, zs11, zs12⟩
          go_simp
          with_reducible rfl
        rotate_left
        · simp only [Act.put, List.setIfInBounds_toArray, List.set_cons_zero, List.set_cons_succ, i64_w, i32_w]
          rfl
        refine one_ (i := 6) (N := some 57) #[true, true, true, true, true, true, true, false, false, false, false] rfl rfl (by kernel_rfl) (by decide) (fun K hK => ?_)
        refine value_ (w1 := ?_) (v := ?_) (by rfl) rfl ?_ ?_
        rotate_left 2
        · go_simp
          constructor
          · rfl
          · rfl
        refine hK.out _ _ ⟨lift (below_box _ _) s0, lift (below_box _ _) s1, lift (below_box _ _) s2, lift (below_box _ _) s3, lift (below_box _ _) s4, lift (below_box _ _) s5, lift (below_box _ _) s6, lift (below_box _ _) s7, lift (below_box _ _) s8, lift (below_box _ _) s9, lift (below_box _ _) s10, lift (below_box _ _) s11, lift (below_box _ _) s12⟩ (fun hHeld => ?_)
        clear hK K s0 s1 s2 s3 s4 s5 s6 s7 s8 s9 s10 s11 s12
        obtain ⟨s0, s1, s2, s3, s4, s5, s6, s7, s8, s9, s10, s11, s12⟩ := hHeld
        refine norm_ (a' := ?_) ?_ ?_
        rotate_left
        · show Act.put _ (some 57) _ = _
          simp only [Act.put, List.setIfInBounds_toArray, List.set_cons_zero, List.set_cons_succ, i64_w, i32_w]
          rfl
        refine one_ (i := 7) (N := some 58) #[true, true, true, true, true, true, true, true, false, false, false] rfl rfl (by kernel_rfl) (by decide) (fun K hK => ?_)
        refine step_append_lies _ (by rfl) _ _ _ (by rfl) hi 228 i0 _ 11 88 Tryz.underlying221 HI.out HZ0.out HZ1.out HZ2.out rfl (by omega) (.slice sa N sc) N (T.flatMap arrCs) (by rfl) ((own_below HOWN9.out (below_drew _)).alloc _) ⟨W9.heap.size, 0, none⟩ 1 1 (numsC f).toList (by rfl) (by rfl) (World.news_of_block (cs := numsC f) (t := 228) (fr := (0, 0)) (heap_alloc_new W9.drew _)) (by simp [Value.oneCell']) (by omega) hml (by omega) (by simp; omega) (W9.heap.size + 1) (by simp) ?_
        intro gg cap wA hownA hgrow hat hlt
        have BT := (((BV.lift hbW9).lift (below_drew _)).lift (below_box _ _)).grown hgrow av3
        refine hK.out _ _ ⟨lift_grown hgrow s0 av4, lift_grown hgrow s1 av3, lift_grown hgrow s2 avx, lift_grown hgrow s3 avx, lift_grown hgrow s4 avx, lift_grown hgrow s5 avx, lift_grown hgrow s6 avx, lift_grown hgrow s7 avx, lift_grown hgrow s8 avx, lift_grown hgrow s9 avx, lift_grown hgrow s10 avx, lift_grown hgrow s11 avx, lift_grown hgrow s12 avx⟩ (fun hHeld => ?_)
        clear hK K s0 s1 s2 s3 s4 s5 s6 s7 s8 s9 s10 s11 s12
        obtain ⟨s0, s1, s2, s3, s4, s5, s6, s7, s8, s9, s10, s11, s12⟩ := hHeld
        refine norm_ (a' := ?_) ?_ ?_
        rotate_left
        · show Act.put _ (some 58) _ = _
          simp only [Act.put, List.setIfInBounds_toArray, List.set_cons_zero, List.set_cons_succ, i64_w, i32_w]
          rfl
        refine pure_ (i := 8) (N := some 59) (v := ?_) (a' := ?_) #[true, true, true, true, true, true, true, true, true, false, false] rfl rfl (by kernel_rfl) (fun _ _ _ h => h) (Or.inl ⟨by rfl, ?_⟩) ?_ ?_
        rotate_left
        · intro w'
          go_simp
          with_reducible rfl
        rotate_left
        · simp only [Act.put, List.setIfInBounds_toArray, List.set_cons_zero, List.set_cons_succ, i64_w, i32_w]
          rfl
        refine pure_ (i := 9) (N := some 60) (v := ?_) (a' := ?_) #[true, true, true, true, true, true, true, true, true, true, false] rfl rfl (by kernel_rfl) (fun _ _ _ h => h) (Or.inl ⟨by rfl, ?_⟩) ?_ ?_
        rotate_left
        · intro w'
          go_simp
          with_reducible rfl
        rotate_left
        · simp only [Act.put, List.setIfInBounds_toArray, List.set_cons_zero, List.set_cons_succ, i64_w, i32_w]
          rfl
        refine last_ (i := 10) (N := none) #[true, true, true, true, true, true, true, true, true, true, true] rfl rfl (by kernel_rfl) (by decide) (fun K hK => ?_)
        have hst := BT.cell 6 (.slice sa N sc) rfl
        have hsf := BT.free 6
        refine skip_ (w1 := ?_) (by rfl) rfl ?_ ?_
        rotate_left
        · go_simp
          rfl
        refine hK.out _ _ ?_
        clear hK K
        clear s0 s1 s2 s3 s4 s5 s6 s7 s8 s9 s10 s11 s12
        refine done_ (by kernel_rfl) ?_
        gi_wp2
        have hgl := hownA.lt gg rfl
        have hgs := hgrow.size
        simp only [World.size_alloc, World.size_drew] at hgs
        refine ⟨(((KeepR.below hbW9 (by omega)).trans (KeepR.below (below_drew _) (by omega))).trans (KeepR.below (below_box _ _) (by simp; omega))).trans ((KeepR.grown hgrow (by simp; omega) (fun r e => by have := HLT0.out r e; omega)).trans (KeepR.grown (grown_set (grown_rfl _ _) (b := W3.heap.size) (k := 6) (.slice (some ⟨gg, 0, none⟩) (N + 1) cap)) (by omega) (fun r e => by cases e; omega))), _, BT.set 6 _, ?_, grown_set (grown_far (grown_on (grown_on (grown_on hg (hbW9.mono (by omega))) ((below_drew _).mono (by omega))) ((below_box _ _).mono (by simp; omega))) hgrow (fun r e => by have := HLT0.out r e; omega)) _⟩
        rw [HDX.out.1, HDX.out.2]
        exact own_far hownA (fun e => by have := hownA.lt _ e; omega) _
      · obtain ⟨q, rfl⟩ : ∃ q, N = q + 1 := ⟨N - 1, by omega⟩
        clear hn
        obtain ⟨t, ht⟩ := at_of_lt HN.out (show q < q + 1 by omega)
        obtain ⟨b, o, cs, ha, hbl, hll, hcs, hcc⟩ := HRD.out.cells q t ht
        cases hcs
        simp only at ha
        subst ha
        obtain ⟨y, hy, hty⟩ := HEX.out t (List.mem_of_getElem? ht)
        have hxy : ¬ (fun j => y.getD j 0) = (fun j => x.getD j 0) := fun e => by
          have hnd : (pre ++ [x]).Nodup := (enumL_nodup l.rs).sublist hpre.sublist
          have hne : y ≠ x := fun e => by
            rw [List.nodup_append] at hnd
            exact hnd.2.2 y hy x (by simp) e
          have hyall : y ∈ enumL l.rs := hpre.subset (by simp [hy])
          have e1 := (mem_enumL.1 hyall).len
          have e2 := (mem_enumL.1 hxall).len
          have e3 : l.rs.length ≤ 11 := by have := hl.air; have := hl.last5; have := hl.cakes5; simp only [LoftD.rs, List.length_append, List.length_map]; omega
          exact hne (arr_inj (n := 11) (by omega) (by omega) (by rw [e]))
        have hneq : ∀ w, (binOp .neq 228 (.agg (numsC (numsF t))) (.agg (numsC f))).run Tryz.prog w = .ok (.bool true) w := fun w => by
          rw [nums_neq]
          have : ¬ (List.range 11).map (numsF t) = (List.range 11).map f := fun e => by
            rw [hty, numsF_mkT, ← HF.out] at e
            have hyall : y ∈ enumL l.rs := hpre.subset (by simp [hy])
            have e1 := (mem_enumL.1 hyall).len
            have e2 := (mem_enumL.1 hxall).len
            have e3 : l.rs.length ≤ 11 := by have := hl.air; have := hl.last5; have := hl.cakes5; simp only [LoftD.rs, List.length_append, List.length_map]; omega
            exact hxy (by rw [arr_inj (n := 11) (by omega) (by omega) e])
          rw [decide_eq_false this]; rfl
        clear hty hxy ht hll hy
        obtain ⟨gf, hgf⟩ : ∃ gf, numsF t = gf := ⟨_, rfl⟩
        have HGF := Lib.hid hgf
        rw [hgf] at hneq
        clear hgf
        have k0 : W8.cell? ⟨b, o + q * 11, none⟩ = some (.int .i64 (gf 0)) := hcc 0 (.int .i64 (gf 0)) (by rw [← HGF.out]; rfl)
        have k1 := hcc 1 (.int .i64 (gf 1)) (by rw [← HGF.out]; rfl)
        have k2 := hcc 2 (.int .i64 (gf 2)) (by rw [← HGF.out]; rfl)
        have k3 := hcc 3 (.int .i64 (gf 3)) (by rw [← HGF.out]; rfl)
        have k4 := hcc 4 (.int .i64 (gf 4)) (by rw [← HGF.out]; rfl)
        have k5 := hcc 5 (.int .i64 (gf 5)) (by rw [← HGF.out]; rfl)
        have k6 := hcc 6 (.int .i64 (gf 6)) (by rw [← HGF.out]; rfl)
        have k7 := hcc 7 (.int .i64 (gf 7)) (by rw [← HGF.out]; rfl)
        have k8 := hcc 8 (.int .i64 (gf 8)) (by rw [← HGF.out]; rfl)
        have k9 := hcc 9 (.int .i64 (gf 9)) (by rw [← HGF.out]; rfl)
        have k10 := hcc 10 (.int .i64 (gf 10)) (by rw [← HGF.out]; rfl)
        clear hcc
        have hq1 : ((q : Int) + 1 == 0) = false := by simp; omega
        have hq2 : (0 : Int) ≤ (q : Int) := by omega
        have hq3 : (q : Int) < (q : Int) + 1 := by omega
        have zz0 := fun x : After W8 => At.cell a0 x
        have zz1 := fun x : After W8 => At.cell a1 x
        have zz2 := fun x : After W8 => At.cell a2 x
        have zz3 := fun x : After W8 => At.cell a3 x
        have zz4 := fun x : After W8 => At.cell a4 x
        have zz5 := fun x : After W8 => At.cell a5 x
        have zz6 := fun x : After W8 => At.cell n0 x
        have zz7 := fun x : After W8 => At.cell n1 x
        have zz8 := fun x : After W8 => At.cell n2 x
        have zz9 := fun x : After W8 => At.cell n3 x
        have zz10 := fun x : After W8 => At.cell n4 x
        have zz11 := fun x : After W8 => At.cell n5 x
        have zz12 := fun x : After W8 => At.cell n6 x
        have zz13 := fun x : After W8 => At.cell n7 x
        have zz14 := fun x : After W8 => At.cell n8 x
        have zz15 := fun x : After W8 => At.cell n9 x
        have zz16 := fun x : After W8 => At.cell n10 x
        have zz17 := fun x : After W8 => At.cell p7 x
        have zz18 := fun x : After W8 => At.cell b6 x
        have zz19 := fun x : After W8 => At.cell k0 x
        have zz20 := fun x : After W8 => At.cell k1 x
        have zz21 := fun x : After W8 => At.cell k2 x
        have zz22 := fun x : After W8 => At.cell k3 x
        have zz23 := fun x : After W8 => At.cell k4 x
        have zz24 := fun x : After W8 => At.cell k5 x
        have zz25 := fun x : After W8 => At.cell k6 x
        have zz26 := fun x : After W8 => At.cell k7 x
        have zz27 := fun x : After W8 => At.cell k8 x
        have zz28 := fun x : After W8 => At.cell k9 x
        have zz29 := fun x : After W8 => At.cell k10 x
        refine round_after ?_ (by kernel_rfl) (by kernel_rfl) (by kernel_rfl) ?_
        · rintro ⟨_, _, hq⟩; exact hq
        repeat (go_big_quiet_step ((go_at_call 150; exact after_call (HRT.out _))))
        refine wpQuiet_nil ?_
        intro W9 hbW9
        clear zz0 zz1 zz2 zz3 zz4 zz5 zz6 zz7 zz8 zz9 zz10 zz11 zz12 zz13 zz14 zz15 zz16 zz17 zz18 zz19 zz20 zz21 zz22 zz23 zz24 zz25 zz26 zz27 zz28 zz29
        have hown9 := own_below HOWN.out hbW9
        have HOWN9 := Lib.hid hown9
        clear hown9
        have q7 := lift hbW9 p7
        have q6 := lift hbW9 b6
        have m0 := lift hbW9 n0
        have m1 := lift hbW9 n1
        have m2 := lift hbW9 n2
        have m3 := lift hbW9 n3
        have m4 := lift hbW9 n4
        have m5 := lift hbW9 n5
        have m6 := lift hbW9 n6
        have m7 := lift hbW9 n7
        have m8 := lift hbW9 n8
        have m9 := lift hbW9 n9
        have m10 := lift hbW9 n10
        have s9 := hbW9.size
        gi_wp2
        refine round_start (k := 11) (S := fun w' => w'.cell? ⟨W4.heap.size, 0, none⟩ = some (.pointer (some ⟨W3.heap.size, 0, none⟩)) ∧ w'.cell? ⟨W3.heap.size, 6, none⟩ = some (.slice (some ⟨b, o, none⟩) (q + 1) sc) ∧ w'.cell? ⟨W.heap.size, 0, none⟩ = some (.int .i64 (f 0)) ∧ w'.cell? ⟨W.heap.size, 1, none⟩ = some (.int .i64 (f 1)) ∧ w'.cell? ⟨W.heap.size, 2, none⟩ = some (.int .i64 (f 2)) ∧ w'.cell? ⟨W.heap.size, 3, none⟩ = some (.int .i64 (f 3)) ∧ w'.cell? ⟨W.heap.size, 4, none⟩ = some (.int .i64 (f 4)) ∧ w'.cell? ⟨W.heap.size, 5, none⟩ = some (.int .i64 (f 5)) ∧ w'.cell? ⟨W.heap.size, 6, none⟩ = some (.int .i64 (f 6)) ∧ w'.cell? ⟨W.heap.size, 7, none⟩ = some (.int .i64 (f 7)) ∧ w'.cell? ⟨W.heap.size, 8, none⟩ = some (.int .i64 (f 8)) ∧ w'.cell? ⟨W.heap.size, 9, none⟩ = some (.int .i64 (f 9)) ∧ w'.cell? ⟨W.heap.size, 10, none⟩ = some (.int .i64 (f 10))) (ds := [10]) #[false, false, false, false, false, false, false, false, false, false, false] ?_ (by kernel_rfl) (by kernel_rfl) rfl rfl ⟨q7, q6, m0, m1, m2, m3, m4, m5, m6, m7, m8, m9, m10⟩ (fun hHeld => ?_)
        · rintro ⟨_, _, hq⟩; exact hq
        obtain ⟨s0, s1, s2, s3, s4, s5, s6, s7, s8, s9, s10, s11, s12⟩ := hHeld
        refine take_ (i := 0) (N := some 51) (v := ?_) (a' := ?_) #[true, false, false, false, false, false, false, false, false, false, false] rfl rfl (by kernel_rfl) (fun _ _ _ h => h) (Or.inl ⟨by rfl, ?_⟩) ⟨s0, s1, s2, s3, s4, s5, s6, s7, s8, s9, s10, s11, s12⟩ ?_ ?_
        rotate_left
        · rintro w' ⟨zs0, zs1, zs2, zs3, zs4, zs5, zs6, zs7, zs8, zs9, zs10, zs11, zs12⟩
          go_simp
          with_reducible rfl
        rotate_left
        · simp only [Act.put, List.setIfInBounds_toArray, List.set_cons_zero, List.set_cons_succ, i64_w, i32_w]
          rfl
        refine take_ (i := 1) (N := some 52) (v := ?_) (a' := ?_) #[true, true, false, false, false, false, false, false, false, false, false] rfl rfl (by kernel_rfl) (fun _ _ _ h => h) (Or.inl ⟨by rfl, ?_⟩) ⟨s0, s1, s2, s3, s4, s5, s6, s7, s8, s9, s10, s11, s12⟩ ?_ ?_
        rotate_left
        · rintro w' ⟨zs0, zs1, zs2, zs3, zs4, zs5, zs6, zs7, zs8, zs9, zs10, zs11, zs12⟩
          go_simp
          with_reducible rfl
        rotate_left
        · simp only [Act.put, List.setIfInBounds_toArray, List.set_cons_zero, List.set_cons_succ, i64_w, i32_w]
          rfl
        refine pure_ (i := 2) (N := some 53) (v := ?_) (a' := ?_) #[true, true, true, false, false, false, false, false, false, false, false] rfl rfl (by kernel_rfl) (fun _ _ _ h => h) (Or.inl ⟨by rfl, ?_⟩) ?_ ?_
        rotate_left
        · intro w'
          go_simp
          with_reducible rfl
        rotate_left
        · simp only [Act.put, List.setIfInBounds_toArray, List.set_cons_zero, List.set_cons_succ, i64_w, i32_w]
          rfl
        refine pure_ (i := 3) (N := some 54) (v := ?_) (a' := ?_) #[true, true, true, true, false, false, false, false, false, false, false] rfl rfl (by kernel_rfl) (fun _ _ _ h => h) (Or.inl ⟨by rfl, ?_⟩) ?_ ?_
        rotate_left
        · intro w'
          go_simp
          with_reducible rfl
        rotate_left
        · simp only [Act.put, List.setIfInBounds_toArray, List.set_cons_zero, List.set_cons_succ, i64_w, i32_w]
          rfl
        refine take_ (i := 4) (N := some 55) (v := ?_) (a' := ?_) #[true, true, true, true, true, false, false, false, false, false, false] rfl rfl (by kernel_rfl) (fun _ _ _ h => h) (Or.inl ⟨by rfl, ?_⟩) ⟨s0, s1, s2, s3, s4, s5, s6, s7, s8, s9, s10, s11, s12⟩ ?_ ?_
        rotate_left
        · rintro w' ⟨zs0, zs1, zs2, zs3, zs4, zs5, zs6, zs7, zs8, zs9, zs10, zs11, zs12⟩
          go_simp
          with_reducible rfl
        rotate_left
        · simp only [Act.put, List.setIfInBounds_toArray, List.set_cons_zero, List.set_cons_succ, i64_w, i32_w]
          rfl
        refine take_ (i := 5) (N := some 56) (v := ?_) (a' := ?_) #[true, true, true, true, true, true, false, false, false, false, false] rfl rfl (by kernel_rfl) (fun _ _ _ h => h) (Or.inl ⟨by rfl, ?_⟩) ⟨s0, s1, s2, s3, s4, s5, s6, s7, s8, s9, s10, s11, s12⟩ ?_ ?_
        rotate_left
        · rintro w' ⟨zs0, zs1, zs2, zs3, zs4, zs5, zs6, zs7, zs8, zs9, zs10, zs11, zs12⟩
          go_simp
          with_reducible rfl
        rotate_left
        · simp only [Act.put, List.setIfInBounds_toArray, List.set_cons_zero, List.set_cons_succ, i64_w, i32_w]
          rfl
        refine one_ (i := 6) (N := some 57) #[true, true, true, true, true, true, true, false, false, false, false] rfl rfl (by kernel_rfl) (by decide) (fun K hK => ?_)
        refine value_ (w1 := ?_) (v := ?_) (by rfl) rfl ?_ ?_
        rotate_left 2
        · go_simp
          constructor
          · rfl
          · rfl
        refine hK.out _ _ ⟨lift (below_box _ _) s0, lift (below_box _ _) s1, lift (below_box _ _) s2, lift (below_box _ _) s3, lift (below_box _ _) s4, lift (below_box _ _) s5, lift (below_box _ _) s6, lift (below_box _ _) s7, lift (below_box _ _) s8, lift (below_box _ _) s9, lift (below_box _ _) s10, lift (below_box _ _) s11, lift (below_box _ _) s12⟩ (fun hHeld => ?_)
        clear hK K s0 s1 s2 s3 s4 s5 s6 s7 s8 s9 s10 s11 s12
        obtain ⟨s0, s1, s2, s3, s4, s5, s6, s7, s8, s9, s10, s11, s12⟩ := hHeld
        refine norm_ (a' := ?_) ?_ ?_
        rotate_left
        · show Act.put _ (some 57) _ = _
          simp only [Act.put, List.setIfInBounds_toArray, List.set_cons_zero, List.set_cons_succ, i64_w, i32_w]
          rfl
        refine one_ (i := 7) (N := some 58) #[true, true, true, true, true, true, true, true, false, false, false] rfl rfl (by kernel_rfl) (by decide) (fun K hK => ?_)
        refine step_append_lies _ (by rfl) _ _ _ (by rfl) hi 228 i0 _ 11 88 Tryz.underlying221 HI.out HZ0.out HZ1.out HZ2.out rfl (by omega) (.slice (some ⟨b, o, none⟩) (q + 1) sc) (q + 1) (T.flatMap arrCs) (by rfl) ((own_below HOWN9.out (below_drew _)).alloc _) ⟨W9.heap.size, 0, none⟩ 1 1 (numsC f).toList (by rfl) (by rfl) (World.news_of_block (cs := numsC f) (t := 228) (fr := (0, 0)) (heap_alloc_new W9.drew _)) (by simp [Value.oneCell']) (by omega) hml (by omega) (by simp; omega) (W9.heap.size + 1) (by simp) ?_
        intro gg cap wA hownA hgrow hat hlt
        have BT := (((BV.lift hbW9).lift (below_drew _)).lift (below_box _ _)).grown hgrow av3
        refine hK.out _ _ ⟨lift_grown hgrow s0 av4, lift_grown hgrow s1 av3, lift_grown hgrow s2 avx, lift_grown hgrow s3 avx, lift_grown hgrow s4 avx, lift_grown hgrow s5 avx, lift_grown hgrow s6 avx, lift_grown hgrow s7 avx, lift_grown hgrow s8 avx, lift_grown hgrow s9 avx, lift_grown hgrow s10 avx, lift_grown hgrow s11 avx, lift_grown hgrow s12 avx⟩ (fun hHeld => ?_)
        clear hK K s0 s1 s2 s3 s4 s5 s6 s7 s8 s9 s10 s11 s12
        obtain ⟨s0, s1, s2, s3, s4, s5, s6, s7, s8, s9, s10, s11, s12⟩ := hHeld
        refine norm_ (a' := ?_) ?_ ?_
        rotate_left
        · show Act.put _ (some 58) _ = _
          simp only [Act.put, List.setIfInBounds_toArray, List.set_cons_zero, List.set_cons_succ, i64_w, i32_w]
          rfl
        refine pure_ (i := 8) (N := some 59) (v := ?_) (a' := ?_) #[true, true, true, true, true, true, true, true, true, false, false] rfl rfl (by kernel_rfl) (fun _ _ _ h => h) (Or.inl ⟨by rfl, ?_⟩) ?_ ?_
        rotate_left
        · intro w'
          go_simp
          with_reducible rfl
        rotate_left
        · simp only [Act.put, List.setIfInBounds_toArray, List.set_cons_zero, List.set_cons_succ, i64_w, i32_w]
          rfl
        refine pure_ (i := 9) (N := some 60) (v := ?_) (a' := ?_) #[true, true, true, true, true, true, true, true, true, true, false] rfl rfl (by kernel_rfl) (fun _ _ _ h => h) (Or.inl ⟨by rfl, ?_⟩) ?_ ?_
        rotate_left
        · intro w'
          go_simp
          with_reducible rfl
        rotate_left
        · simp only [Act.put, List.setIfInBounds_toArray, List.set_cons_zero, List.set_cons_succ, i64_w, i32_w]
          rfl
        refine last_ (i := 10) (N := none) #[true, true, true, true, true, true, true, true, true, true, true] rfl rfl (by kernel_rfl) (by decide) (fun K hK => ?_)
        have hst := BT.cell 6 (.slice (some ⟨b, o, none⟩) (q + 1) sc) rfl
        have hsf := BT.free 6
        refine skip_ (w1 := ?_) (by rfl) rfl ?_ ?_
        rotate_left
        · go_simp
          rfl
        refine hK.out _ _ ?_
        clear hK K
        clear s0 s1 s2 s3 s4 s5 s6 s7 s8 s9 s10 s11 s12
        refine done_ (by kernel_rfl) ?_
        gi_wp2
        have hgl := hownA.lt gg rfl
        have hgs := hgrow.size
        simp only [World.size_alloc, World.size_drew] at hgs
        refine ⟨(((KeepR.below hbW9 (by omega)).trans (KeepR.below (below_drew _) (by omega))).trans (KeepR.below (below_box _ _) (by simp; omega))).trans ((KeepR.grown hgrow (by simp; omega) (fun r e => by have := HLT0.out r e; omega)).trans (KeepR.grown (grown_set (grown_rfl _ _) (b := W3.heap.size) (k := 6) (.slice (some ⟨gg, 0, none⟩) ((q + 1) + 1) cap)) (by omega) (fun r e => by cases e; omega))), _, BT.set 6 _, ?_, grown_set (grown_far (grown_on (grown_on (grown_on hg (hbW9.mono (by omega))) ((below_drew _).mono (by omega))) ((below_box _ _).mono (by simp; omega))) hgrow (fun r e => by have := HLT0.out r e; omega)) _⟩
        rw [HDX.out.1, HDX.out.2]
        exact own_far hownA (fun e => by have := hownA.lt _ e; omega) _
  case done =>
    rintro hi W h1 h2 ⟨vv, BV, hown, hg⟩ hK
    have hlen : (dnT l (enumL l.rs)).length ≤ 2000 := Nat.le_trans (dnT_len _ _) (enumL_le hl)
    obtain ⟨sa, sc, rfl, hrd, hsab⟩ := own_rd (f := arrCs) (fun _ => rfl) (by omega) hown
    have hbW : Below w.heap.size w W := hw6.grown hg hw6.size (fun k e => by cases e; have := hw3.size; omega)
    have p7 := ((BX5.lift hW6).grown hg (fun e => by injection e; omega)).cell 0 (.pointer (some ⟨W3.heap.size, 0, none⟩)) rfl
    have HT : Hid (lexT l = dnT l (enumL l.rs)) := rfl
    obtain ⟨T, hT⟩ : ∃ T, dnT l (enumL l.rs) = T := ⟨_, rfl⟩
    rw [hT] at BV hrd HT hlen
    have HOT : Hid (dnT l (enumL l.rs) = T) := hT
    clear hown hT
    obtain ⟨N, hN⟩ : ∃ N, T.length = N := ⟨_, rfl⟩
    rw [hN] at BV hrd hlen
    have HN := Lib.hid hN
    clear hN
    have b6 := BV.cell 6 (.slice sa N sc) rfl
    have hKs := (Array.getElem?_eq_some_iff.1 hK).1
    obtain ⟨Wf, hWf⟩ : ∃ Wf, W.putObj W6.heap.size (.deferred none) = Wf := ⟨_, rfl⟩
    have hgf : W.grownBy Wf (some W6.heap.size) := by rw [← hWf]; exact grownBy_putObj' _ _ _
    have hbWf : Below w.heap.size w Wf := hbW.grown hgf hbW.size (fun k e => by cases e; have := hw3.size; omega)
    have HR := run_takeDeferred (P := Tryz.prog) hK
    rw [hWf] at HR
    have HRT := Lib.hid HR
    clear HR hWf
    by_cases hn : N = 0
    · have hnb : ((N : Int) == 0) = true := by simp [hn]
      have HN0 := Lib.hid hn
      clear hn
      gi_wp2
      refine ⟨by simp, .inl ⟨_, _, rfl, HRT.out, ?_⟩⟩
      exact ⟨_, results_tmp2 rfl _ _ _, Or.inl ⟨by rw [HT.out]; exact List.eq_nil_of_length_eq_zero (by rw [HN.out, HN0.out]), rfl, hbWf⟩⟩
    · have hnb : ((N : Int) == 0) = false := by simp; omega
      have HN0 := Lib.hid hn
      clear hn
      gi_wp2
      refine ⟨by simp, .inl ⟨_, _, rfl, HRT.out, ?_⟩⟩
      have kf : ∀ b o u, b ≠ W6.heap.size → W.cell? ⟨b, o, none⟩ = some u → Wf.cell? ⟨b, o, none⟩ = some u := fun b o u hne hc => lift_grown hgf hc (fun e => hne (by injection e with e; exact e.symm))
      have hmap : Wf.heap[w2.heap.size]? = some (.map #[] 0) := by
        have e1 := hbW6M.block _ (show w2.heap.size < W3.heap.size by omega)
        have e2 := hg.block w2.heap.size (by omega) (by simp; omega)
        have e3 := hgf.block w2.heap.size (by omega) (by simp; omega)
        rw [e3, e2, e1, hmW3]
      refine ⟨_, results_tmp2 rfl _ _ _, Or.inr ⟨fun e => HN0.out (by rw [← HN.out, ← HT.out, e]; rfl), W3.heap.size, w2.heap.size, ⟨sa, N, sc⟩, rfl, ⟨?_, ?_, ?_, h.below hbWf, ?_⟩, ?_, ⟨⟨#[], 0, hmap, by simp⟩⟩, hw2.size, hbWf⟩⟩
      · have := hgf.size; omega
      · intro i x hx
        refine kf _ _ _ (by omega) (BV.cell i x ?_)
        have hi6 : i < 6 := (Array.getElem?_eq_some_iff.1 hx).1
        rw [← hx]
        rcases (show i = 0 ∨ i = 1 ∨ i = 2 ∨ i = 3 ∨ i = 4 ∨ i = 5 by omega) with rfl | rfl | rfl | rfl | rfl | rfl <;> rfl
      · exact kf _ _ _ (by omega) b6
      · rw [HT.out]
        refine hrd.grown hgf (fun ad e => ?_)
        have := hsab ad e
        omega
      · exact kf _ _ _ (by omega) (BV.cell 7 _ rfl)
end Go.Proofs.YtenfnakhijobkaaGreat
namespace Go.Proofs.YtenfnakhijobkaaGreat
open Go.RowKit Go.Proofs.YtenfnakhijobkaaGreatW.PrintLast
/-- A loft at work, with what its map remembers. -/
structure Wk (w : World) (B r : Nat) (v : LoftV) (l : LoftD) (s : Sl) : Prop where
  rd : RdWork w B v l s (lexT l)
  c7 : w.cell? ⟨B, 7, none⟩ = some (.map (some r))
  mem : Memo w r l (lexT l)
theorem Wk.below {w w' : World} {B r : Nat} {v : LoftV} {l : LoftD} {s : Sl} (h : Wk w B r v l s) (hb : Below w.heap.size w w') : Wk w' B r v l s := ⟨h.rd.below hb, lift hb h.c7, h.mem.lift hb⟩
theorem Wk.sure {w w' : World} {B r : Nat} {v : LoftV} {l : LoftD} {s : Sl} (h : Wk w B r v l s) (hm : Memo w' r l (lexT l)) (hg : w.grownBy w' (some r)) : Wk w' B r v l s :=
  ⟨h.rd.kept (h.mem.kept hg), (h.mem.kept hg).cell _ _ _ h.c7, hm⟩
def goodDay (l : LoftD) (ts : List TruthD) (s k : Nat) : Int := match l.cakes[k]? with
  | some ck => if sureDay l ts s k < ck.come + ck.keep then sureDay l ts s k else 12
  | none => 12
set_option maxHeartbeats 4000000 in
set_option maxRecDepth 100000 in
theorem good_any (B r : Nat) (v : LoftV) (l : LoftD) (sl : Sl) (hl : LOk l) (s k : Nat) (bd : BoardD) (ck : CakeD) (hs : l.shelves[s]? = some bd) (hk : l.cakes[k]? = some ck)
    (w : World) (h : Wk w B r v l sl) :
    Calls Tryz.prog 154 #[.pointer (some ⟨B, 0, none⟩), .agg #[.int .i64 k, .int .i64 s]] w (SureOut w r l (lexT l) (goodDay l (lexT l) s k)) := by
  have HS := fun w' (h' : Wk w' B r v l sl) => sure_any B r v l sl (lexT l) hl (lexT_ok hl) s k bd ck hs hk w' h'.rd h'.c7 h'.mem
  have hgd : goodDay l (lexT l) s k = if sureDay l (lexT l) s k < ck.come + ck.keep then sureDay l (lexT l) s k else 12 := by rw [goodDay, hk]
  have hsb := sureDay_bd hl (lexT l) s k
  obtain ⟨d, hd⟩ : ∃ d, sureDay l (lexT l) s k = d := ⟨_, rfl⟩
  rw [hd] at HS hgd hsb
  have HSU := Lib.hid HS
  have hcb := hl.cakes ck (List.mem_of_getElem? hk)
  have hkc : k < v.cakes.n := by rw [← h.rd.loft.cakes.len]; exact lt_of_at hk
  have hk5 : k < 5 := by have := hl.cakes5; have := lt_of_at hk; omega
  have hl5 := hl.last5
  obtain ⟨cb, co, hca, hcl, hc0, hc1, hc2, hc3⟩ := h.rd.loft.cakes.cake_at hk
  obtain ⟨W0, hNW0, BX, hW0, hzW0⟩ := Box.named w #[.int .i64 (k : Int), .int .i64 (s : Int)] 194
  have p0 := BX.cell 0 (.int .i64 k) rfl
  have p1 := BX.cell 1 (.int .i64 s) rfl
  have c3 := (h.rd.below hW0).cells 3 (.slice v.cakes.a v.cakes.n v.cakes.c) rfl
  rw [hca] at c3
  obtain ⟨W1, hN1, BX1, hW1, hz1⟩ := Box.named W0 #[.int .i64 ck.come, .int .i64 ck.water.lo, .int .i64 ck.water.hi, .int .i64 ck.keep] 186
  have hw1 := below_on (below_on hW0 hW1) (below_drew _)
  have e0 := lift hW0 hc0
  have e1 := lift hW0 hc1
  have e2 := lift hW0 hc2
  have e3 := lift hW0 hc3
  have q0 := (below_on hW1 (below_drew _))
  have HWK := Lib.hid (h.below hw1)
  have HGD := Lib.hid hgd
  clear HS hs hk hd hca hgd
  go_enter Tryz.func154, Tryz.ntmps154
  go_wp2
  clear hNW0
  refine start_ (n := 11) (S := fun w' => w'.cell? ⟨B, 3, none⟩ = some (.slice (some ⟨cb, co, none⟩) v.cakes.n v.cakes.c) ∧ w'.cell? ⟨w.heap.size, 0, none⟩ = some (.int .i64 (k : Int)) ∧ w'.cell? ⟨w.heap.size, 1, none⟩ = some (.int .i64 (s : Int)) ∧ w'.cell? ⟨cb, co + k * 4, none⟩ = some (.int .i64 ck.come) ∧ w'.cell? ⟨cb, co + k * 4 + 1, none⟩ = some (.int .i64 ck.water.lo) ∧ w'.cell? ⟨cb, co + k * 4 + 2, none⟩ = some (.int .i64 ck.water.hi) ∧ w'.cell? ⟨cb, co + k * 4 + 3, none⟩ = some (.int .i64 ck.keep)) (ds := []) #[false, false, false, false, false, false, false, false, false, false, false] (by kernel_rfl) rfl rfl ⟨c3, p0, p1, e0, e1, e2, e3⟩ (fun hHeld => ?_)
  obtain ⟨s0, s1, s2, s3, s4, s5, s6⟩ := hHeld
  refine pure_ (i := 0) (N := some 7) (v := ?_) (a' := ?_) #[true, false, false, false, false, false, false, false, false, false, false] rfl rfl (by kernel_rfl) (fun _ _ _ h => h) (Or.inl ⟨by rfl, ?_⟩) ?_ ?_
  rotate_left
  · intro w'
    go_simp
    with_reducible rfl
  rotate_left
  · simp only [Act.put, List.setIfInBounds_toArray, List.set_cons_zero, List.set_cons_succ, i64_w, i32_w]
    rfl
  refine pure_ (i := 1) (N := some 8) (v := ?_) (a' := ?_) #[true, true, false, false, false, false, false, false, false, false, false] rfl rfl (by kernel_rfl) (fun _ _ _ h => h) (Or.inl ⟨by rfl, ?_⟩) ?_ ?_
  rotate_left
  · intro w'
    go_simp
    with_reducible rfl
  rotate_left
  · simp only [Act.put, List.setIfInBounds_toArray, List.set_cons_zero, List.set_cons_succ, i64_w, i32_w]
    rfl
  refine pure_ (i := 2) (N := some 9) (v := ?_) (a' := ?_) #[true, true, true, false, false, false, false, false, false, false, false] rfl rfl (by kernel_rfl) (fun _ _ _ h => h) (Or.inl ⟨by rfl, ?_⟩) ?_ ?_
  rotate_left
  · intro w'
    go_simp
    with_reducible rfl
  rotate_left
  · simp only [Act.put, List.setIfInBounds_toArray, List.set_cons_zero, List.set_cons_succ, i64_w, i32_w]
    rfl
  refine pure_ (i := 3) (N := some 10) (v := ?_) (a' := ?_) #[true, true, true, true, false, false, false, false, false, false, false] rfl rfl (by kernel_rfl) (fun _ _ _ h => h) (Or.inl ⟨by rfl, ?_⟩) ?_ ?_
  rotate_left
  · intro w'
    go_simp
    with_reducible rfl
  rotate_left
  · simp only [Act.put, List.setIfInBounds_toArray, List.set_cons_zero, List.set_cons_succ, i64_w, i32_w]
    rfl
  refine pure_ (i := 5) (N := some 12) (v := ?_) (a' := ?_) #[true, true, true, true, false, true, false, false, false, false, false] rfl rfl (by kernel_rfl) (fun _ _ _ h => h) (Or.inl ⟨by rfl, ?_⟩) ?_ ?_
  rotate_left
  · intro w'
    go_simp
    with_reducible rfl
  rotate_left
  · simp only [Act.put, List.setIfInBounds_toArray, List.set_cons_zero, List.set_cons_succ, i64_w, i32_w]
    rfl
  refine take_ (i := 4) (N := some 11) (v := ?_) (a' := ?_) #[true, true, true, true, true, true, false, false, false, false, false] rfl rfl (by kernel_rfl) (fun _ _ _ h => h) (Or.inl ⟨by rfl, ?_⟩) ⟨s0, s1, s2, s3, s4, s5, s6⟩ ?_ ?_
  rotate_left
  · rintro w' ⟨zs0, zs1, zs2, zs3, zs4, zs5, zs6⟩
    go_simp
    with_reducible rfl
  rotate_left
  · simp only [Act.put, List.setIfInBounds_toArray, List.set_cons_zero, List.set_cons_succ, i64_w, i32_w]
    rfl
  refine take_ (i := 6) (N := some 13) (v := ?_) (a' := ?_) #[true, true, true, true, true, true, true, false, false, false, false] rfl rfl (by kernel_rfl) (fun _ _ _ h => h) (Or.inl ⟨by rfl, ?_⟩) ⟨s0, s1, s2, s3, s4, s5, s6⟩ ?_ ?_
  rotate_left
  · rintro w' ⟨zs0, zs1, zs2, zs3, zs4, zs5, zs6⟩
    go_simp
    with_reducible rfl
  rotate_left
  · simp only [Act.put, List.setIfInBounds_toArray, List.set_cons_zero, List.set_cons_succ, i64_w, i32_w]
    rfl
  refine pure_ (i := 7) (N := some 14) (v := ?_) (a' := ?_) #[true, true, true, true, true, true, true, true, false, false, false] rfl rfl (by kernel_rfl) (fun _ _ _ h => h) (Or.inl ⟨by rfl, ?_⟩) ?_ ?_
  rotate_left
  · intro w'
    go_simp
    with_reducible rfl
  rotate_left
  · simp only [Act.put, List.setIfInBounds_toArray, List.set_cons_zero, List.set_cons_succ, i64_w, i32_w]
    rfl
  refine take_ (i := 8) (N := some 15) (v := ?_) (a' := ?_) #[true, true, true, true, true, true, true, true, true, false, false] rfl rfl (by kernel_rfl) (fun _ _ _ h => h) (Or.inl ⟨by rfl, ?_⟩) ⟨s0, s1, s2, s3, s4, s5, s6⟩ ?_ ?_
  rotate_left
  · rintro w' ⟨zs0, zs1, zs2, zs3, zs4, zs5, zs6⟩
    go_simp
    with_reducible rfl
  rotate_left
  · simp only [Act.put, List.setIfInBounds_toArray, List.set_cons_zero, List.set_cons_succ, i64_w, i32_w]
    rfl
  refine one_ (i := 9) (N := some 5) #[true, true, true, true, true, true, true, true, true, true, false] rfl rfl (by kernel_rfl) (by decide) (fun K hK => ?_)
  refine value_ (w1 := ?_) (v := ?_) (by rfl) rfl ?_ ?_
  rotate_left 2
  · go_simp
    constructor
    · rfl
    · rfl
  refine hK.out _ _ ⟨lift (below_box _ _) s0, lift (below_box _ _) s1, lift (below_box _ _) s2, lift (below_box _ _) s3, lift (below_box _ _) s4, lift (below_box _ _) s5, lift (below_box _ _) s6⟩ (fun hHeld => ?_)
  clear hK K s0 s1 s2 s3 s4 s5 s6
  obtain ⟨s0, s1, s2, s3, s4, s5, s6⟩ := hHeld
  refine norm_ (a' := ?_) ?_ ?_
  rotate_left
  · show Act.put _ (some 5) _ = _
    simp only [Act.put, List.setIfInBounds_toArray, List.set_cons_zero, List.set_cons_succ, i64_w, i32_w]
    rfl
  refine one_ (i := 10) (N := none) #[true, true, true, true, true, true, true, true, true, true, true] rfl rfl (by kernel_rfl) (by decide) (fun K hK => ?_)
  refine skip_ (w1 := W1.drew) (by rfl) rfl ?_ ?_
  · go_simp
  refine hK.out _ _ ⟨lift q0 c3, lift q0 p0, lift q0 p1, lift q0 e0, lift q0 e1, lift q0 e2, lift q0 e3⟩ (fun hHeld => ?_)
  clear hK K s0 s1 s2 s3 s4 s5 s6
  obtain ⟨s0, s1, s2, s3, s4, s5, s6⟩ := hHeld
  refine done_ (by kernel_rfl) ?_
  have m0 := lift (below_drew W1) (BX1.cell 0 (.int .i64 ck.come) rfl)
  have m3 := lift (below_drew W1) (BX1.cell 3 (.int .i64 ck.keep) rfl)
  clear c3 e0 e1 e2 e3 q0 hN1
  by_cases hlt : d < ck.come + ck.keep
  · have HE : Hid (goodDay l (lexT l) s k = d) := by show _ = _; rw [HGD.out, if_pos hlt]
    go_wp2_with (go_at_call 117; refine (HSU.out _ HWK.out).mono ?_; rintro e w2 ⟨rfl, hm2, hg2⟩; have hkp := HWK.out.mem.kept hg2; have r0 := hkp.cell _ _ _ m0; have r3 := hkp.cell _ _ _ m3)
    go_ret
    rw [HE.out]
    exact ⟨rfl, hm2, grown_trans (grown_below hw1 _) hg2⟩
  · have HE : Hid (goodDay l (lexT l) s k = 12) := by show _ = _; rw [HGD.out, if_neg hlt]
    go_wp2_with (go_at_call 117; refine (HSU.out _ HWK.out).mono ?_; rintro e w2 ⟨rfl, hm2, hg2⟩; have hkp := HWK.out.mem.kept hg2; have r0 := hkp.cell _ _ _ m0; have r3 := hkp.cell _ _ _ m3)
    go_ret
    rw [HE.out]
    exact ⟨rfl, hm2, grown_trans (grown_below hw1 _) hg2⟩
/-- The error of asking a loft; ok: what is asked is fine. -/
def askedE (l : LoftD) (ok : Bool) : Int := if loftFault l ≠ 0 then loftFault l else if ok = false then 2 else if lexT l = [] then 11 else 0
/-- Asking a loft: the error, or a loft at work. -/
def Asked (w : World) (v : LoftV) (l : LoftD) (ok : Bool) (e : Ending) (w' : World) : Prop := (askedE l ok ≠ 0 ∧ AskedErr w (askedE l ok) e w') ∨ (askedE l ok = 0 ∧ LOk l ∧ ok = true ∧
  ∃ (B r : Nat) (s : Sl), e = .returned (.tuple #[.pointer (some ⟨B, 0, none⟩), .int .i64 0]) ∧ Wk w' B r v l s ∧ w.heap.size ≤ r ∧ Below w.heap.size w w')
theorem asked_any (v : LoftV) (l : LoftD) (w : World) (h : RdLoft w v l) (g : Nat) (caps : Array Value) (hg : ∀ args w, (callFunc g args).run Tryz.prog w = .ok (.enter g args) w) (ok : Bool)
    (hf : LOk l → ∀ w', Below w.heap.size w w' → Calls Tryz.prog g caps w' fun e w'' => e = .returned (.bool ok) ∧ Below w'.heap.size w' w'') :
    Calls Tryz.prog 113 #[.agg v.cs, .func (.func g) #[] caps] w (Asked w v l ok) := by
  by_cases h0 : loftFault l = 0
  · have hl := LOk.of h0
    cases ok
    · have e : askedE l false = 2 := by rw [askedE, if_neg (by simp [h0]), if_pos rfl]
      refine (asked_range v l w h h0 g caps hg (hf hl)).mono fun e' w' hh => Or.inl ?_
      rw [e]; exact ⟨by omega, hh⟩
    · refine (asked_full v l w h h0 g caps hg (hf hl)).mono fun e' w' hh => ?_
      rcases hh with ⟨hn, hh⟩ | ⟨hn, B, r, s, a, b, c, d, e2, f⟩
      · have e : askedE l true = 11 := by rw [askedE, if_neg (by simp [h0]), if_neg (by simp), if_pos hn]
        exact Or.inl (by rw [e]; exact ⟨by omega, hh⟩)
      · exact Or.inr ⟨by rw [askedE, if_neg (by simp [h0]), if_neg (by simp), if_neg hn], hl, rfl, B, r, s, a, ⟨b, c, d⟩, e2, f⟩
  · have e : askedE l ok = loftFault l := by rw [askedE, if_pos h0]
    refine (asked_fault v l w h h0 _).mono fun e' w' hh => Or.inl ?_
    rw [e]; exact ⟨h0, hh⟩
def AskedW (w : World) (v : LoftV) (l : LoftD) (e : Ending) (w' : World) : Prop := ∃ (B r : Nat) (s : Sl), e = .returned (.tuple #[.pointer (some ⟨B, 0, none⟩), .int .i64 0]) ∧ Wk w' B r v l s ∧ w.heap.size ≤ r ∧ Below w.heap.size w w'
theorem askedE_zero {l : LoftD} {ok : Bool} (h : askedE l ok = 0) : LOk l ∧ ok = true ∧ lexT l ≠ [] := by
  unfold askedE at h
  by_cases h1 : loftFault l = 0
  · rw [if_neg (by simp [h1])] at h
    cases ok
    · rw [if_pos rfl] at h; cases h
    · rw [if_neg (by simp)] at h
      by_cases h2 : lexT l = []
      · rw [if_pos h2] at h; cases h
      · exact ⟨LOk.of h1, rfl, h2⟩
  · rw [if_pos h1] at h; exact absurd h h1
theorem asked_err (v : LoftV) (l : LoftD) (w : World) (h : RdLoft w v l) (g : Nat) (caps : Array Value) (hg : ∀ args w, (callFunc g args).run Tryz.prog w = .ok (.enter g args) w) (ok : Bool)
    (hf : LOk l → ∀ w', Below w.heap.size w w' → Calls Tryz.prog g caps w' fun e w'' => e = .returned (.bool ok) ∧ Below w'.heap.size w' w'') (hne : askedE l ok ≠ 0) :
    Calls Tryz.prog 113 #[.agg v.cs, .func (.func g) #[] caps] w (AskedErr w (askedE l ok)) :=
  (asked_any v l w h g caps hg ok hf).mono fun _ _ hh => hh.elim (fun x => x.2) (fun x => absurd x.1 hne)
theorem asked_ok (v : LoftV) (l : LoftD) (w : World) (h : RdLoft w v l) (g : Nat) (caps : Array Value) (hg : ∀ args w, (callFunc g args).run Tryz.prog w = .ok (.enter g args) w) (ok : Bool)
    (hf : LOk l → ∀ w', Below w.heap.size w w' → Calls Tryz.prog g caps w' fun e w'' => e = .returned (.bool ok) ∧ Below w'.heap.size w' w'') (h0 : askedE l ok = 0) :
    Calls Tryz.prog 113 #[.agg v.cs, .func (.func g) #[] caps] w (AskedW w v l) :=
  (asked_any v l w h g caps hg ok hf).mono fun _ _ hh => hh.elim (fun x => absurd h0 x.1) (fun x => x.2.2.2)
end Go.Proofs.YtenfnakhijobkaaGreat
namespace Go.Proofs.YtenfnakhijobkaaGreat
open Go.RowKit Go.Proofs.YtenfnakhijobkaaGreatW.PrintLast
def mouldy (l : LoftD) (p : List Int) (i : Nat) : Bool := goodDay l (lexT l) (p.getD i 0).toNat i == 12
def stuckS (l : LoftD) (p : List Int) : Int × Int :=
  if askedE l (isPlace l p) ≠ 0 then (0, askedE l (isPlace l p))
  else match (List.range p.length).find? (mouldy l p) with
    | some i => ((i : Int), 0)
    | none => (0, 7)
set_option maxHeartbeats 4000000 in
set_option maxRecDepth 100000 in
theorem Stuck_any (v : LoftV) (l : LoftD) (s : Sl) (p : List Int) (w : World) (h : RdLoft w v l) (hp : RdInts w s p) :
    Calls Tryz.prog 127 #[.agg v.cs, .slice s.a s.n s.c] w fun e w' => e = .returned (.tuple #[.int .i64 (stuckS l p).1, .int .i64 (stuckS l p).2]) ∧ Below w.heap.size w w' := by
  obtain ⟨W0, hNW0, BX, hW0, hzW0⟩ := Box.named w v.cs 44
  obtain ⟨W1, hNW1, BX1, hW1, hzW1⟩ := Box.named W0 #[.slice s.a s.n s.c] 25
  have hw1 := below_on hW0 hW1
  have BL := BX.lift hW1
  have c0 := BL.cell 0 (.int .i64 v.last) rfl
  have c1 := BL.cell 1 (.slice v.air.a v.air.n v.air.c) rfl
  have c2 := BL.cell 2 (.slice v.shelves.a v.shelves.n v.shelves.c) rfl
  have c3 := BL.cell 3 (.slice v.cakes.a v.cakes.n v.cakes.c) rfl
  have c4 := BL.cell 4 (.slice v.put.a v.put.n v.put.c) rfl
  have c5 := BL.cell 5 (.slice v.weights.a v.weights.n v.weights.c) rfl
  have e1 := BX1.cell 0 (.slice s.a s.n s.c) rfl
  have hf : LOk l → ∀ w', Below W1.heap.size W1 w' → Calls Tryz.prog 160 #[.pointer (some ⟨w.heap.size, 0, none⟩), .pointer (some ⟨W0.heap.size, 0, none⟩)] w' fun e w'' => e = .returned (.bool (isPlace l p)) ∧ Below w'.heap.size w' w'' := fun hl w' hb =>
    StuckFine_any v l hl s p _ _ w' (h.below (below_on hw1 hb)) (hp.below (encR_mono _) (below_on hw1 hb)) (BL.lift hb) (BX1.lift hb)
  by_cases h0 : askedE l (isPlace l p) = 0
  · obtain ⟨hl, hok, _⟩ := askedE_zero h0
    have hpl : p.length = l.cakes.length := by simp only [isPlace, Bool.and_eq_true, decide_eq_true_eq] at hok; exact hok.1
    have hA := asked_ok v l W1 (h.below hw1) 160 _ (enters_of Tryz.func160 (by kernel_rfl) rfl) _ hf h0
    have HA := Lib.hid hA
    have HLP : Hid (p.length = s.n) := hp.len
    have hn5 : s.n ≤ 5 := by have := hl.cakes5; have := HLP.out; omega
    have HS : Hid (stuckS l p = match (List.range s.n).find? (mouldy l p) with | some i => ((i : Int), 0) | none => (0, 7)) := by
      show _ = _
      rw [stuckS, if_neg (by simp [h0]), HLP.out]
    have HOK := Lib.hid hok
    have HPL := Lib.hid hpl
    clear hf h0 hok hA hpl
    go_enter Tryz.func127, Tryz.ntmps127
    go_wp2_with (go_at_call 113; refine HA.out.mono ?_; rintro e w3 ⟨B, r, sl, rfl, hwk, hr, hb3⟩; have f1 := lift hb3 e1)
    have hw3 := below_on hw1 hb3
    have HWK0 := Lib.hid hwk
    clear c0 c1 c2 c3 c4 c5 f1 hwk
    go_loopw [21] (fun i wr => ∃ k : Nat, k ≤ s.n ∧ i = .int .i64 k ∧ Hid (∀ q, q < k → mouldy l p q = false) ∧ Hid (Wk wr B r v l sl) ∧ Hid (Kept w3 wr) ∧ w3.grownBy wr (some r)) (fun i _ => s.n - (intOf i).toNat)
    case atStart => exact ⟨0, Nat.zero_le _, rfl, (fun q hq => absurd hq (Nat.not_lt_zero q)), HWK0.out, ⟨Nat.le_refl _, fun _ _ _ hc => hc⟩, grown_rfl _ _⟩
    case round =>
      obtain ⟨k, hk, rfl, hq, HWK, HKP, hg⟩ := hrel
      by_cases hlt : k < s.n
      · have hkc : k < l.cakes.length := by have := HPL.out; have := HLP.out; omega
        obtain ⟨sn, bd, hps, hbd⟩ := place_at HOK.out hkc
        have hck : l.cakes[k]? = some l.cakes[k] := List.getElem?_eq_getElem hkc
        obtain ⟨pb, po, hpa, hpbl, hpc⟩ := hp.int_at hps
        have hpc := HKP.out.cell _ _ _ (lift hw3 hpc)
        have HG := Lib.hid fun w' (h' : Wk w' B r v l sl) => good_any B r v l sl hl sn k bd l.cakes[k] hbd hck w' h'
        have hm : mouldy l p k = (goodDay l (lexT l) sn k == 12) := by rw [mouldy, List.getD_eq_getElem?_getD, hps]; rfl
        obtain ⟨d, hd⟩ : ∃ d, goodDay l (lexT l) sn k = d := ⟨_, rfl⟩
        rw [hd] at hm HG
        have HM := Lib.hid hm
        rw [hpa]
        clear hps hbd hck hpa hd hm
        by_cases h12 : d = 12
        · have hdb : (d == 12) = true := by simp [h12]
          have HE : Hid (stuckS l p = ((k : Int), 0)) := by
            show _ = _
            rw [HS.out, find_some_of hlt (by rw [HM.out, hdb]) hq.out]
          clear h12
          go_wp2_with (go_at_call 154; refine (HG.out _ HWK.out).mono ?_; rintro e w4 ⟨rfl, hm4, hg4⟩)
          go_ret2
          rw [HE.out]
          exact ⟨rfl, hw3.grown (grown_trans hg hg4) hw3.size (fun k e => by cases e; have := hw1.size; omega)⟩
        · have hdb : (d == 12) = false := by simp [h12]
          clear h12
          go_wp2_with (go_at_call 154; refine (HG.out _ HWK.out).mono ?_; rintro e w4 ⟨rfl, hm4, hg4⟩)
          go_roundw
          case measure => simp [intOf]; omega
          case rel => exact ⟨k + 1, by omega, by go_num, (fun q hq2 => by
            by_cases e : q = k
            · rw [e, HM.out, hdb]
            · exact hq.out q (by omega)), HWK.out.sure hm4 hg4, HKP.out.trans (HWK.out.mem.kept hg4), grown_trans hg hg4⟩
      · obtain rfl : k = s.n := by omega
        have HE : Hid (stuckS l p = (0, 7)) := by show _ = _; rw [HS.out, find_none_of hq.out]
        go_wp2
        go_ret2
        rw [HE.out]
        exact ⟨rfl, hw3.grown hg hw3.size (fun k e => by cases e; have := hw1.size; omega)⟩
  · have hd : stuckS l p = (0, askedE l (isPlace l p)) := by rw [stuckS, if_pos h0]
    have hA := asked_err v l W1 (h.below hw1) 160 _ (enters_of Tryz.func160 (by kernel_rfl) rfl) _ hf h0
    obtain ⟨ev, hev⟩ : ∃ ev, askedE l (isPlace l p) = ev := ⟨_, rfl⟩
    rw [hev] at hA h0 hd
    have hnb : (ev != 0) = true := by simp [h0]
    have HA := Lib.hid hA
    have HD := Lib.hid hd
    clear hf h0 hA hev hd
    go_enter Tryz.func127, Tryz.ntmps127
    go_wp2_with (go_at_call 113; refine HA.out.mono ?_; rintro e w3 ⟨rfl, hb3⟩)
    go_ret2
    rw [HD.out]
    exact ⟨rfl, below_on hw1 hb3⟩
end Go.Proofs.YtenfnakhijobkaaGreat
namespace Go.Proofs.YtenfnakhijobkaaGreat
open Go.RowKit Go.Proofs.YtenfnakhijobkaaGreatW.PrintLast

theorem withinM_any (n lo hi : Int) (w : World) :
    Calls Tryz.prog 129 #[.int .i64 n, .int .i64 lo, .int .i64 hi] w fun e w' => e = .returned (.bool (inB n lo hi)) ∧ w = w' := by
  by_cases h : lo ≤ n
  · go_enter Tryz.func129, Tryz.ntmps129
    go_wp2
    go_ret
    exact ⟨ret_bool (by simp [inB]; omega), rfl⟩
  · go_enter Tryz.func129, Tryz.ntmps129
    go_wp2
    go_ret
    exact ⟨ret_bool (by simp [inB]; omega), rfl⟩
theorem validM_any (lo hi : Int) (w : World) :
    Calls Tryz.prog 161 #[.agg #[.int .i64 lo, .int .i64 hi]] w fun e w' => e = .returned (.bool (Rg.upTo ⟨lo, hi⟩ 20)) ∧ Below w.heap.size w w' := by
  go_enter Tryz.func161, Tryz.ntmps161
  go_wp2
  all_goals go_ret
  all_goals exact ⟨ret_bool (by simp [Rg.upTo]; omega), below_box _ _⟩
theorem sizeM_any (lo hi : Int) (w : World) (h0 : 0 ≤ lo) (h1 : lo ≤ hi) (h2 : hi ≤ 1000) :
    Calls Tryz.prog 134 #[.agg #[.int .i64 lo, .int .i64 hi]] w fun e w' => e = .returned (.int .i64 (hi - lo + 1)) ∧ Below w.heap.size w w' := by
  go_enter Tryz.func134, Tryz.ntmps134
  go_wp2
  go_ret
  exact ⟨rfl, below_box _ _⟩
theorem hasM_any (n lo hi : Int) (w : World) :
    Calls Tryz.prog 155 #[.agg #[.int .i64 lo, .int .i64 hi], .int .i64 n] w fun e w' => e = .returned (.bool (inB n lo hi)) ∧ Below w.heap.size w w' := by
  go_enter Tryz.func155, Tryz.ntmps155
  go_wp2_with (go_at_call 129; refine (withinM_any _ _ _ _).mono ?_; rintro e w' ⟨rfl, rfl⟩)
  go_ret
  exact ⟨rfl, below_box _ _⟩
theorem minimumM_any (b o c : Nat) (x y : Int) (w : World) (hx : w.cell? ⟨b, o, none⟩ = some (.int .i64 x)) (hy : w.cell? ⟨b, o + 1, none⟩ = some (.int .i64 y)) :
    Calls Tryz.prog 133 #[.slice (some ⟨b, o, none⟩) 2 c] w fun e w' => e = .returned (.int .i64 (min x y)) ∧ w = w' := by
  go_enter Tryz.func133, Tryz.ntmps133
  go_wp2_with (go_at_call 164; refine (Min2_any b o c x y _ hx hy).mono ?_; rintro e w' ⟨rfl, rfl⟩)
  go_ret
  exact ⟨rfl, rfl⟩
set_option maxHeartbeats 4000000 in
set_option maxRecDepth 100000 in
theorem widerM_any (lo hi n : Int) (w : World) :
    Calls Tryz.prog 141 #[.agg #[.int .i64 lo, .int .i64 hi], .int .i64 n] w fun e w' => e = .returned (.agg #[.int .i64 (min lo n), .int .i64 (max hi n)]) ∧ Below w.heap.size w w' := by
  have hmax : (if hi < n then n else hi) = max hi n := by omega
  go_enter Tryz.func141, Tryz.ntmps141
  go_wp2
  obtain ⟨W0, hNW0, BX, hW0, hzW0⟩ := Box.named w #[.int .i64 lo, .int .i64 hi] 63
  rw [hNW0]
  clear hNW0
  rw [show w.heap.size + 1 = W0.heap.size from hzW0.out.symm]
  obtain ⟨W1, hNW1, BX1, hW1, hzW1⟩ := Box.named W0 #[.int .i64 0, .int .i64 0] 63
  rw [hNW1]
  clear hNW1
  have e0 := (BX.lift hW1).cell 0 (.int .i64 lo) rfl
  have e1 := (BX.lift hW1).cell 1 (.int .i64 hi) rfl
  have hw1 := below_on hW0 hW1
  refine start_ (n := 11) (S := fun w' => w'.cell? ⟨w.heap.size, 0, none⟩ = some (.int .i64 lo) ∧ w'.cell? ⟨w.heap.size, 1, none⟩ = some (.int .i64 hi)) (ds := [10]) #[false, false, false, false, false, false, false, false, false, false, false] (by kernel_rfl) rfl rfl ⟨e0, e1⟩ (fun hHeld => ?_)
  obtain ⟨s0, s1⟩ := hHeld
  refine pure_ (i := 0) (N := some 5) (v := ?_) (a' := ?_) #[true, false, false, false, false, false, false, false, false, false, false] rfl rfl (by kernel_rfl) (fun _ _ _ h => h) (Or.inl ⟨by rfl, ?_⟩) ?_ ?_
  rotate_left
  · intro w'
    go_simp
    with_reducible rfl
  rotate_left
  · simp only [Act.put, List.setIfInBounds_toArray, List.set_cons_zero, List.set_cons_succ, i64_w, i32_w]
    rfl
  refine pure_ (i := 2) (N := some 7) (v := ?_) (a' := ?_) #[true, false, true, false, false, false, false, false, false, false, false] rfl rfl (by kernel_rfl) (fun _ _ _ h => h) (Or.inl ⟨by rfl, ?_⟩) ?_ ?_
  rotate_left
  · intro w'
    go_simp
    with_reducible rfl
  rotate_left
  · simp only [Act.put, List.setIfInBounds_toArray, List.set_cons_zero, List.set_cons_succ, i64_w, i32_w]
    rfl
  refine pure_ (i := 5) (N := some 10) (v := ?_) (a' := ?_) #[true, false, true, false, false, true, false, false, false, false, false] rfl rfl (by kernel_rfl) (fun _ _ _ h => h) (Or.inl ⟨by rfl, ?_⟩) ?_ ?_
  rotate_left
  · intro w'
    go_simp
    with_reducible rfl
  rotate_left
  · simp only [Act.put, List.setIfInBounds_toArray, List.set_cons_zero, List.set_cons_succ, i64_w, i32_w]
    rfl
  refine pure_ (i := 7) (N := some 12) (v := ?_) (a' := ?_) #[true, false, true, false, false, true, false, true, false, false, false] rfl rfl (by kernel_rfl) (fun _ _ _ h => h) (Or.inl ⟨by rfl, ?_⟩) ?_ ?_
  rotate_left
  · intro w'
    go_simp
    with_reducible rfl
  rotate_left
  · simp only [Act.put, List.setIfInBounds_toArray, List.set_cons_zero, List.set_cons_succ, i64_w, i32_w]
    rfl
  refine take_ (i := 1) (N := some 6) (v := ?_) (a' := ?_) #[true, true, true, false, false, true, false, true, false, false, false] rfl rfl (by kernel_rfl) (fun _ _ _ h => h) (Or.inl ⟨by rfl, ?_⟩) ⟨s0, s1⟩ ?_ ?_
  rotate_left
  · rintro w' ⟨zs0, zs1⟩
    go_simp
    with_reducible rfl
  rotate_left
  · simp only [Act.put, List.setIfInBounds_toArray, List.set_cons_zero, List.set_cons_succ, i64_w, i32_w]
    rfl
  refine take_ (i := 6) (N := some 11) (v := ?_) (a' := ?_) #[true, true, true, false, false, true, true, true, false, false, false] rfl rfl (by kernel_rfl) (fun _ _ _ h => h) (Or.inl ⟨by rfl, ?_⟩) ⟨s0, s1⟩ ?_ ?_
  rotate_left
  · rintro w' ⟨zs0, zs1⟩
    go_simp
    with_reducible rfl
  rotate_left
  · simp only [Act.put, List.setIfInBounds_toArray, List.set_cons_zero, List.set_cons_succ, i64_w, i32_w]
    rfl
  refine pure_ (i := 8) (N := some 13) (v := ?_) (a' := ?_) #[true, true, true, false, false, true, true, true, true, false, false] rfl rfl (by kernel_rfl) (fun _ _ _ h => h) (Or.inl ⟨by rfl, ?_⟩) ?_ ?_
  rotate_left
  · intro w'
    go_simp
    with_reducible rfl
  rotate_left
  · simp only [Act.put, List.setIfInBounds_toArray, List.set_cons_zero, List.set_cons_succ, i64_w, i32_w]
    rfl
  refine one_ (i := 3) (N := some 8) #[true, true, true, true, false, true, true, true, true, false, false] rfl rfl (by kernel_rfl) (by decide) (fun K hK => ?_)
  refine value_ (w1 := ?_) (v := ?_) (by rfl) rfl ?_ ?_
  rotate_left 2
  · go_simp
    constructor
    · rfl
    · rfl
  refine hK.out _ _ ⟨lift (below_box _ _) s0, lift (below_box _ _) s1⟩ (fun hHeld => ?_)
  clear hK K s0 s1
  obtain ⟨s0, s1⟩ := hHeld
  refine norm_ (a' := ?_) ?_ ?_
  rotate_left
  · show Act.put _ (some 8) _ = _
    simp only [Act.put, List.setIfInBounds_toArray, List.set_cons_zero, List.set_cons_succ, i64_w, i32_w]
    rfl
  refine one_ (i := 4) (N := some 9) #[true, true, true, true, true, true, true, true, true, false, false] rfl rfl (by kernel_rfl) (by decide) (fun K hK => ?_)
  refine goes_ Tryz.func133 (by kernel_rfl) rfl #[.slice (some ⟨W1.heap.size, 0, none⟩) 2 2] (by rfl) rfl rfl (by (try simp only [List.map_toArray, List.map_cons, List.map_nil]); first | done | rfl) ?_
  refine (minimumM_any W1.heap.size 0 2 lo n _ (lift (below_drew _) ((Box.new W1 #[.int .i64 lo, .int .i64 n] 3).cell 0 _ rfl)) (lift (below_drew _) ((Box.new W1 #[.int .i64 lo, .int .i64 n] 3).cell 1 _ rfl))).mono ?_
  rintro e w3 ⟨rfl, rfl⟩
  refine ⟨_, rfl, ?_⟩
  refine hK.out _ _ ⟨s0, s1⟩ (fun hHeld => ?_)
  clear hK K s0 s1
  obtain ⟨s0, s1⟩ := hHeld
  refine norm_ (a' := ?_) ?_ ?_
  rotate_left
  · show Act.put _ (some 9) _ = _
    simp only [Act.put, List.setIfInBounds_toArray, List.set_cons_zero, List.set_cons_succ, i64_w, i32_w]
    rfl
  refine pure_ (i := 9) (N := some 14) (v := ?_) (a' := ?_) #[true, true, true, true, true, true, true, true, true, true, false] rfl rfl (by kernel_rfl) (fun _ _ _ h => h) (Or.inl ⟨by rfl, ?_⟩) ?_ ?_
  rotate_left
  · intro w'
    go_simp
    with_reducible rfl
  rotate_left
  · simp only [Act.put, List.setIfInBounds_toArray, List.set_cons_zero, List.set_cons_succ, i64_w, i32_w]
    rfl
  refine last_ (i := 10) (N := none) #[true, true, true, true, true, true, true, true, true, true, true] rfl rfl (by kernel_rfl) (by decide) (fun K hK => ?_)
  have B3 := BX1.lift (below_box W1 (.cells #[.int .i64 lo, .int .i64 n] 3))
  have kf0 := B3.free 0
  have kf1 := B3.free 1
  have kc0 := B3.cell 0 (.int .i64 0) rfl
  have kc1 := B3.cell 1 (.int .i64 0) rfl
  refine skip_ (w1 := ?_) (by rfl) rfl ?_ ?_
  rotate_left
  · go_simp
    rfl
  refine hK.out _ _ ?_
  clear hK K
  clear s0 s1
  refine done_ (by kernel_rfl) ?_
  have B4 := (B3.set 0 (.int .i64 (min lo n))).set 1 (.int .i64 (max hi n))
  have z0 := B4.cell 0 (.int .i64 (min lo n)) rfl
  have z1 := B4.cell 1 (.int .i64 (max hi n)) rfl
  go_wp2
  refine bodyPost_ret (v := .agg #[.int .i64 (min lo n), .int .i64 (max hi n)]) (by simp [results, Tryz.results141, go_sem, z0, z1]) rfl ?_
  refine ⟨rfl, ?_⟩
  have hq : Below w.heap.size w (W1.alloc (.cells #[.int .i64 lo, .int .i64 n] 3)) := below_on hw1 (below_box _ _)
  exact (below_set (below_set hq (by have := hW0.size; omega) _) (by have := hW0.size; omega) _).drew
def MktD.is (m : MktD) (k : Int) : Bool := inB k 0 (m.chests.length - 1)
theorem RdMkt.nle {w : World} {v : MktV} {m : MktD} (h : RdMkt w v m) : v.sales.n ≤ 281474976710656 ∧ v.chests.n ≤ 281474976710656 ∧ v.notes.n ≤ 281474976710656 :=
  ⟨by have := h.sales.small; omega, by have := h.chests.small; omega, by have := h.notes.small; omega⟩
theorem isM_any (v : MktV) (m : MktD) (k : Int) (w : World) (h : RdMkt w v m) :
    Calls Tryz.prog 87 #[.agg v.cs, .int .i64 k] w fun e w' => e = .returned (.bool (m.is k)) ∧ Below w.heap.size w w' := by
  have HL : Hid (m.chests.length = v.chests.n) := h.chests.len
  have hn := h.nle.2.1
  go_enter Tryz.func87, Tryz.ntmps87
  go_wp2_with (go_at_call 129; refine (withinM_any _ _ _ _).mono ?_; rintro e w' ⟨rfl, rfl⟩)
  go_ret
  exact ⟨ret_bool (by rw [MktD.is, HL.out]), below_box _ _⟩
theorem noteM_any (v : MktV) (m : MktD) (s lo hi : Int) (w : World) (h : RdMkt w v m) :
    Calls Tryz.prog 128 #[.agg v.cs, .agg #[.int .i64 s, .int .i64 lo, .int .i64 hi]] w fun e w' => e = .returned (.bool (noteOk m.sales.length ⟨s, ⟨lo, hi⟩⟩)) ∧ Below w.heap.size w w' := by
  have hn := h.nle.1
  have HE : Hid (noteOk m.sales.length ⟨s, ⟨lo, hi⟩⟩ = (inB s 0 ((v.sales.n : Int) - 1) && Rg.upTo ⟨lo, hi⟩ 20)) := by show _ = _; rw [noteOk, h.sales.len]
  cases h1 : inB s 0 ((v.sales.n : Int) - 1)
  all_goals have H1 := Lib.hid h1
  all_goals go_enter Tryz.func128, Tryz.ntmps128
  · go_wp2_with (go_at_call 129; refine (call_b (withinM_any _ _ _ _) h1).mono ?_; rintro e w' ⟨rfl, rfl⟩)
    go_ret
    exact ⟨ret_bool (by rw [HE.out, H1.out]; rfl), below_on (below_box _ _) (below_box _ _)⟩
  · go_wp2_with (first | (go_at_call 129; refine (call_b (withinM_any _ _ _ _) h1).mono ?_; rintro e w' ⟨rfl, rfl⟩) | (go_at_call 161; refine (validM_any _ _ _).mono ?_; rintro e w3 ⟨rfl, hb⟩))
    go_ret
    exact ⟨ret_bool (by rw [HE.out, H1.out]; simp), below_on (below_on (below_box _ _) (below_box _ _)) hb⟩
end Go.Proofs.YtenfnakhijobkaaGreat
namespace Go.Proofs.YtenfnakhijobkaaGreat
open Go.RowKit Go.Proofs.YtenfnakhijobkaaGreatW.PrintLast
def noteOkM (m : MktD) (x : NoteD) : Bool := noteOk m.sales.length x

theorem all_note_clo (v : MktV) (l : MktD) (B : Nat) (x : NoteD) (w : World) (hB : w.cell? ⟨B, 0, none⟩ = some (.func (.func 128) #[.agg v.cs] #[])) (hV : RdMkt w v l) :
    Calls Tryz.prog 163 #[.agg #[.int .i64 x.sale, .int .i64 x.price.lo, .int .i64 x.price.hi], .pointer (some ⟨B, 0, none⟩)] w fun e w' => e = .returned (.bool (!(noteOkM l) x)) ∧ Below w.heap.size w w' := by
  have hb0 := World.block_lt_of_cell? w ⟨B, 0, none⟩ hB
  go_enter Tryz.func163, Tryz.ntmps163
  go_wp2_with (go_at_call 128; refine (noteM_any v l _ _ _ _ (hV.below (below_box _ _))).mono ?_; rintro e w' ⟨rfl, hb⟩)
  go_ret
  exact ⟨rfl, below_on (below_box _ _) hb⟩
theorem all_note_idx (v : MktV) (l : MktD) (B : Nat) (s : Sl) (xs : List NoteD) (w : World) (h : Rd (encR NoteD.cs) 3 w s xs) (hB : w.cell? ⟨B, 0, none⟩ = some (.func (.func 128) #[.agg v.cs] #[])) (hV : RdMkt w v l) :
    Calls Tryz.prog 188 #[.slice s.a s.n s.c, .func (.func 163) #[] #[.pointer (some ⟨B, 0, none⟩)]] w fun e w' => ∃ r : Int, e = .returned (.int .i64 r) ∧ decide (0 ≤ r) = (!xs.all (noteOkM l)) ∧ Below w.heap.size w w' := by
  obtain ⟨sa, sn, sc⟩ := s
  have hs : sn ≤ 281474976710656 := by have := h.small; simp at this; omega
  have HL : Hid (xs.length = sn) := h.len
  go_enter Tryz.func188, Tryz.ntmps188
  go_wp2
  go_loopw [8] (fun i wr => ∃ k : Nat, k ≤ sn ∧ i = .int .i64 k ∧ Hid ((xs.take k).all (noteOkM l) = true) ∧ Below w.heap.size w wr) (fun i _ => sn - (intOf i).toNat)
  case atStart => exact ⟨0, Nat.zero_le _, rfl, by simp [Hid], Below.refl _ _⟩
  case round =>
    obtain ⟨k, hk, rfl, hq, hb⟩ := hrel
    by_cases hlt : k < sn
    · obtain ⟨x, hx⟩ := at_of_lt HL.out hlt
      obtain ⟨b, o, ha, hbl, hc0, hc1, hc2⟩ := h.note_at hx
      have hc0 := lift hb hc0
      have hc1 := lift hb hc1
      have hc2 := lift hb hc2
      have HX := Lib.hid hx
      simp only at ha
      subst ha
      clear hx
      have HB := Lib.hid (lift hb hB)
      have hR := all_note_clo v l B x wr HB.out (hV.below hb)
      cases hp : (noteOkM l) x
      all_goals rw [hp] at hR
      all_goals have HP := Lib.hid hp
      all_goals clear hp
      · go_wp2_with (go_at_call 163; refine hR.mono ?_; rintro e w1 ⟨rfl, hb1⟩)
        go_ret
        exact ⟨k, rfl, by rw [all_of_at _ HX.out HP.out, decide_eq_true (by omega)]; rfl, below_on hb hb1⟩
      · go_wp2_with (go_at_call 163; refine hR.mono ?_; rintro e w1 ⟨rfl, hb1⟩)
        go_roundw
        case rel => exact ⟨k + 1, by omega, by go_num, by
          show (xs.take (k + 1)).all _ = true
          rw [take_all _ HX.out, hq.out, HP.out]; rfl, below_on hb hb1⟩
        case measure => simp [intOf]; omega
    · obtain rfl : k = sn := by omega
      have HQ : Hid (xs.all (noteOkM l) = true) := by
        have h1 := hq.out
        rwa [take_len HL.out] at h1
      clear hq
      go_wp2
      go_ret
      exact ⟨-1, rfl, by rw [HQ.out]; rfl, hb⟩
theorem all_note_cont (v : MktV) (l : MktD) (B : Nat) (s : Sl) (xs : List NoteD) (w : World) (h : Rd (encR NoteD.cs) 3 w s xs) (hB : w.cell? ⟨B, 0, none⟩ = some (.func (.func 128) #[.agg v.cs] #[])) (hV : RdMkt w v l) :
    Calls Tryz.prog 162 #[.slice s.a s.n s.c, .func (.func 163) #[] #[.pointer (some ⟨B, 0, none⟩)]] w fun e w' => e = .returned (.bool (!xs.all (noteOkM l))) ∧ Below w.heap.size w w' := by
  go_enter Tryz.func162, Tryz.ntmps162
  go_wp2_with (go_at_call 188; refine (all_note_idx v l B s xs _ h hB hV).mono ?_; rintro e w1 ⟨r, rfl, hr, hb1⟩; have HR := Lib.hid hr; clear hr)
  go_ret
  exact ⟨ret_bool HR.out, hb1⟩
theorem all_note_all (v : MktV) (l : MktD) (s : Sl) (xs : List NoteD) (w : World) (h : Rd (encR NoteD.cs) 3 w s xs) (hV : RdMkt w v l) :
    Calls Tryz.prog 132 #[.slice s.a s.n s.c, (.func (.func 128) #[.agg v.cs] #[])] w fun e w' => e = .returned (.bool (xs.all (noteOkM l))) ∧ Below w.heap.size w w' := by
  go_enter Tryz.func132, Tryz.ntmps132
  go_wp2_with (go_at_call 162; obtain ⟨W0, hNW0, BX, hW0, hzW0⟩ := Box.named w #[(.func (.func 128) #[.agg v.cs] #[])] 203; rw [hNW0]; clear hNW0; refine (all_note_cont v l w.heap.size s xs _ (h.below (encR_mono _) hW0) (BX.cell 0 _ rfl) (hV.below hW0)).mono ?_; rintro e w1 ⟨rfl, hb1⟩)
  go_ret
  exact ⟨ret_bool (by simp), below_on hW0 hb1⟩

end Go.Proofs.YtenfnakhijobkaaGreat
namespace Go.Proofs.YtenfnakhijobkaaGreat
open Go.RowKit Go.Proofs.YtenfnakhijobkaaGreatW.PrintLast
set_option maxHeartbeats 4000000 in
set_option maxRecDepth 100000 in
theorem sales_any (v : MktV) (m : MktD) (w : World) (h : RdMkt w v m) :
    Calls Tryz.prog 130 #[.agg v.cs] w fun e w' => e = .returned (.bool (salesOk m.sales)) ∧ Below w.heap.size w w' := by
  have HL : Hid (m.sales.length = v.sales.n) := h.sales.len
  have hn := h.nle.1
  obtain ⟨W0, hNW0, BX, hW0, hzW0⟩ := Box.named w v.cs 49
  have c0 := BX.cell 0 (.int .i64 v.loft.last) rfl
  have c1 := BX.cell 1 (.slice v.loft.air.a v.loft.air.n v.loft.air.c) rfl
  have c2 := BX.cell 2 (.slice v.loft.shelves.a v.loft.shelves.n v.loft.shelves.c) rfl
  have c3 := BX.cell 3 (.slice v.loft.cakes.a v.loft.cakes.n v.loft.cakes.c) rfl
  have c4 := BX.cell 4 (.slice v.loft.put.a v.loft.put.n v.loft.put.c) rfl
  have c5 := BX.cell 5 (.slice v.loft.weights.a v.loft.weights.n v.loft.weights.c) rfl
  have c6 := BX.cell 6 (.slice v.sales.a v.sales.n v.sales.c) rfl
  have c7 := BX.cell 7 (.slice v.chests.a v.chests.n v.chests.c) rfl
  have c8 := BX.cell 8 (.int .i64 v.step) rfl
  have c9 := BX.cell 9 (.int .i64 v.lots) rfl
  have c10 := BX.cell 10 (.slice v.notes.a v.notes.n v.notes.c) rfl
  go_enter Tryz.func130, Tryz.ntmps130
  go_wp2
  clear hNW0 c0 c1 c2 c3 c4 c5 c6 c7 c8 c9 c10
  go_loopw [3, 9] (fun d i wr => ∃ (k : Nat) (last : Int), k ≤ v.sales.n ∧ i = .int .i64 k ∧ d = .int .i64 last ∧ Hid (salesLast (m.sales.take k) = some last) ∧ Below W0.heap.size W0 wr) (fun _ i _ => v.sales.n - (intOf i).toNat)
  case atStart => exact ⟨0, -1, Nat.zero_le _, rfl, rfl, by simp [Hid, salesLast], Below.refl _ _⟩
  case round =>
    obtain ⟨k, last, hk, rfl, rfl, hq, hb⟩ := hrel
    have hw := below_on hW0 hb
    have hlb := sLast_ge hq.out
    by_cases hlt : k < v.sales.n
    · obtain ⟨x, hx⟩ := at_of_lt HL.out hlt
      obtain ⟨b, o, ha, hbl, hc0, hc1, hc2⟩ := h.sales.sale_at hx
      have hc0 := lift hw hc0
      have hc1 := lift hw hc1
      have hc2 := lift hw hc2
      have HST : Hid (salesLast (m.sales.take (k + 1)) = if inB x.day (last + 1) 9 && x.price.upTo 20 then some x.day else none) := by
        show _ = _
        rw [salesLast_at hx, hq.out]; rfl
      rw [ha]
      clear hx ha
      obtain ⟨W2, hNW2, BX2, hW2, hzW2⟩ := Box.named wr #[.int .i64 x.day, .int .i64 x.price.lo, .int .i64 x.price.hi] 149
      have e0 := BX2.cell 0 (.int .i64 x.day) rfl
      have e1 := BX2.cell 1 (.int .i64 x.price.lo) rfl
      have e2 := BX2.cell 2 (.int .i64 x.price.hi) rfl
      cases h1 : inB x.day (last + 1) 9
      · have H1 := Lib.hid h1
        go_wp2_with (go_at_call 129; refine (call_b (withinM_any _ _ _ _) h1).mono ?_; rintro e w' ⟨rfl, rfl⟩)
        go_ret
        refine ⟨ret_bool ?_, below_on hw hW2⟩
        symm
        exact salesLast_none (k := k + 1) (by rw [HST.out, H1.out]; rfl)
      · have H1 := Lib.hid h1
        cases h2 : Rg.upTo ⟨x.price.lo, x.price.hi⟩ 20
        · have H2 := Lib.hid h2
          go_wp2_with (first | (go_at_call 129; refine (call_b (withinM_any _ _ _ _) h1).mono ?_; rintro e w' ⟨rfl, rfl⟩) | (go_at_call 161; refine (call_b (validM_any _ _ _) h2).mono ?_; rintro e w3 ⟨rfl, hb3⟩))
          go_ret
          refine ⟨ret_bool ?_, below_on (below_on hw hW2) hb3⟩
          symm
          exact salesLast_none (k := k + 1) (by rw [HST.out, H1.out, show x.price.upTo 20 = false from H2.out]; rfl)
        · have H2 := Lib.hid h2
          go_wp2_with (first | (go_at_call 129; refine (call_b (withinM_any _ _ _ _) h1).mono ?_; rintro e w' ⟨rfl, rfl⟩) | (go_at_call 161; refine (call_b (validM_any _ _ _) h2).mono ?_; rintro e w3 ⟨rfl, hb3⟩; have g0 := lift hb3 e0))
          go_roundw
          case measure => simp [intOf]; omega
          case rel => exact ⟨k + 1, x.day, by omega, by go_num, rfl, by show _ = _; rw [HST.out, H1.out, show x.price.upTo 20 = true from H2.out]; rfl, below_on (below_on hb hW2) hb3⟩
    · obtain rfl : k = v.sales.n := by omega
      have HQ : Hid (salesOk m.sales = true) := by
        have h1 := hq.out
        rw [take_len HL.out] at h1
        show _ = _
        rw [salesOk, h1]; rfl
      go_wp2
      go_ret
      exact ⟨ret_bool HQ.out.symm, hw⟩
/-! ### Chests -/
abbrev boolC (f : Nat → Bool) : Array Value := #[.bool (f 0), .bool (f 1), .bool (f 2), .bool (f 3), .bool (f 4)]
def putB (f : Nat → Bool) (i : Nat) : Nat → Bool := fun j => if j = i then true else f j
theorem boolC_at (f : Nat → Bool) {i : Nat} (h : i < 5) : (boolC f)[i]? = some (.bool (f i)) := by
  rcases (show i = 0 ∨ i = 1 ∨ i = 2 ∨ i = 3 ∨ i = 4 by omega) with rfl | rfl | rfl | rfl | rfl <;> rfl
theorem boolC_set (f : Nat → Bool) {i : Nat} (h : i < 5) : (boolC f).setIfInBounds i (.bool true) = boolC (putB f i) := by
  rcases (show i = 0 ∨ i = 1 ∨ i = 2 ∨ i = 3 ∨ i = 4 by omega) with rfl | rfl | rfl | rfl | rfl <;> simp [boolC, putB]
theorem cakesLast_le {n : Int} {l : List Int} : ∀ {k : Nat} {last : Int}, cakesLast n (l.take k) = some last → ∀ x ∈ l.take k, x ≤ last
  | 0, _, _, x, hx => by simp at hx
  | k + 1, last, h, x, hx => by
    cases hk : l[k]? with
    | none =>
      have : l.length ≤ k := List.getElem?_eq_none_iff.1 hk
      rw [List.take_of_length_le (by omega), ← List.take_of_length_le (i := k) (l := l) (by omega)] at h hx
      exact cakesLast_le h x hx
    | some y =>
      rw [cakesLast_at hk] at h
      cases h2 : cakesLast n (l.take k) with
      | none => rw [h2] at h; cases h
      | some q =>
        rw [h2] at h
        simp only [cakeStep, Option.bind_some] at h
        split at h
        · rename_i h3
          rw [inB_iff] at h3
          cases h
          rw [List.take_add_one, hk] at hx
          rcases List.mem_append.1 hx with hx | hx
          · have := cakesLast_le h2 x hx
            omega
          · simp at hx; omega
        · cases h
def chestsB (n : Int) (cs : List ChestD) : Bool := cs.all (chestOk n) && decide (apart cs)
theorem apart_snoc {cs : List ChestD} {c : ChestD} : apart (cs ++ [c]) ↔ apart cs ∧ ∀ c' ∈ cs, ∀ x ∈ c.cakes, x ∉ c'.cakes := by
  unfold apart
  rw [List.pairwise_append]
  simp
theorem apart_take {cs : List ChestD} (h : apart cs) (k : Nat) : apart (cs.take k) := List.Pairwise.sublist (List.take_sublist k cs) h
theorem chestsB_bad {n : Int} {cs : List ChestD} {k : Nat} {c : ChestD} (hc : cs[k]? = some c) (h : chestOk n c = false) : chestsB n cs = false := by
  rw [chestsB, all_of_at _ hc h]; rfl
theorem chestsB_twice {n : Int} {cs : List ChestD} {k : Nat} {c c' : ChestD} {x : Int} (hc : cs[k]? = some c) (hx : x ∈ c.cakes) (hc' : c' ∈ cs.take k) (hx' : x ∈ c'.cakes) : chestsB n cs = false := by
  have : ¬ apart cs := fun h => by
    have h1 := apart_take h (k + 1)
    rw [List.take_add_one, hc] at h1
    exact (apart_snoc.1 h1).2 c' hc' x hx hx'
  rw [chestsB, decide_eq_false this, Bool.and_false]
theorem chestsB_yes {n : Int} {cs : List ChestD} (h1 : cs.all (chestOk n) = true) (h2 : apart cs) : chestsB n cs = true := by
  rw [chestsB, h1, decide_eq_true h2]; rfl
end Go.Proofs.YtenfnakhijobkaaGreat
namespace Go.Proofs.YtenfnakhijobkaaGreat
open Go.RowKit Go.Proofs.YtenfnakhijobkaaGreatW.PrintLast
theorem cLast_hi {n : Int} {l : List Int} {k : Nat} {last : Int} (h : cakesLast n (l.take k) = some last) : last ≤ n - 1 ∨ last = -1 := by
  induction k generalizing last with
  | zero => simp [cakesLast] at h; omega
  | succ k ih =>
    cases hx : l[k]? with
    | none =>
      have : l.length ≤ k := List.getElem?_eq_none_iff.1 hx
      rw [List.take_of_length_le (by omega), ← List.take_of_length_le (i := k) (l := l) (by omega)] at h
      exact ih h
    | some x =>
      rw [cakesLast_at hx] at h
      cases h2 : cakesLast n (l.take k) with
      | none => rw [h2] at h; cases h
      | some q =>
        rw [h2] at h
        simp only [cakeStep, Option.bind_some] at h
        split at h
        · rename_i h3
          rw [inB_iff] at h3
          cases h
          omega
        · cases h
def usedIn (cs : List ChestD) (x : Int) : Prop := ∃ c ∈ cs, x ∈ c.cakes
set_option maxHeartbeats 8000000 in
set_option maxRecDepth 100000 in
theorem chests_any (v : MktV) (m : MktD) (w : World) (h : RdMkt w v m) (h5 : m.loft.cakes.length ≤ 5) :
    Calls Tryz.prog 131 #[.agg v.cs] w fun e w' => e = .returned (.bool (chestsB m.loft.cakes.length m.chests)) ∧ Below w.heap.size w w' := by
  have HL : Hid (m.chests.length = v.chests.n) := h.chests.len
  have HLC : Hid (m.loft.cakes.length = v.loft.cakes.n) := h.loft.cakes.len
  have hn := h.nle.2.1
  have hc5 : v.loft.cakes.n ≤ 5 := by have := HLC.out; omega
  obtain ⟨cn, hcn⟩ : ∃ cn, v.loft.cakes.n = cn := ⟨_, rfl⟩
  rw [HLC.out, hcn]
  rw [hcn] at hc5
  have HCN := Lib.hid hcn
  clear hcn h5
  obtain ⟨W0, hNW0, BX, hW0, hzW0⟩ := Box.named w v.cs 49
  obtain ⟨W1, hNW1, BX1, hW1, hzW1⟩ := Box.named W0 (boolC (fun _ => false)) 234
  have hw1 := below_on hW0 hW1
  have c0 := (BX.lift hW1).cell 0 (.int .i64 v.loft.last) rfl
  have c1 := (BX.lift hW1).cell 1 (.slice v.loft.air.a v.loft.air.n v.loft.air.c) rfl
  have c2 := (BX.lift hW1).cell 2 (.slice v.loft.shelves.a v.loft.shelves.n v.loft.shelves.c) rfl
  have c3 := (BX.lift hW1).cell 3 (.slice v.loft.cakes.a v.loft.cakes.n v.loft.cakes.c) rfl
  have c4 := (BX.lift hW1).cell 4 (.slice v.loft.put.a v.loft.put.n v.loft.put.c) rfl
  have c5 := (BX.lift hW1).cell 5 (.slice v.loft.weights.a v.loft.weights.n v.loft.weights.c) rfl
  have c6 := (BX.lift hW1).cell 6 (.slice v.sales.a v.sales.n v.sales.c) rfl
  have c7 := (BX.lift hW1).cell 7 (.slice v.chests.a v.chests.n v.chests.c) rfl
  have c8 := (BX.lift hW1).cell 8 (.int .i64 v.step) rfl
  have c9 := (BX.lift hW1).cell 9 (.int .i64 v.lots) rfl
  have c10 := (BX.lift hW1).cell 10 (.slice v.notes.a v.notes.n v.notes.c) rfl
  obtain ⟨ca, hca⟩ : ∃ ca, v.chests.a = ca := ⟨_, rfl⟩
  rw [hca] at c7
  have HCA := Lib.hid hca
  clear hca
  go_enter Tryz.func131, Tryz.ntmps131
  go_wp2
  clear hNW0 hNW1 c0 c1 c2 c3 c4 c5 c6 c7 c8 c9 c10
  go_loopg [12] v.chests.n (fun g i wr => ∃ (k : Nat) (f : Nat → Bool), k + g = v.chests.n ∧ i = .int .i64 k ∧ Box wr W0.heap.size (boolC f) 234 ∧ Hid ((m.chests.take k).all (chestOk cn) = true) ∧ Hid (apart (m.chests.take k)) ∧ Hid (∀ j, j < 5 → (f j = true ↔ usedIn (m.chests.take k) j)) ∧ Below W0.heap.size W0 wr)
  case atStart => exact ⟨0, _, by omega, rfl, BX1, by simp [Hid], by simp [Hid, apart], (fun j _ => by simp [usedIn]), hW1⟩
  case round =>
    obtain ⟨k, f, hkg, rfl, BU, hall, hap, hus, hb⟩ := hrel
    obtain ⟨g1, rfl⟩ : ∃ g1, g1 = gk := ⟨_, rfl⟩
    obtain ⟨wo, rfl⟩ : ∃ wo : World, wo = wr := ⟨_, rfl⟩
    have hw := below_on hW0 hb
    by_cases hlt : k < v.chests.n
    · obtain ⟨c, hc⟩ := at_of_lt HL.out hlt
      obtain ⟨b, o, t, ha, hbl, hc0, hc1, hrd⟩ := h.chests.chest_at hc
      have hc0 := lift hw hc0
      have hc1 := lift hw hc1
      obtain ⟨ta, tn, tc⟩ := t
      have htn : tn ≤ 281474976710656 := by have := hrd.small; simp at this; omega
      have HLT : Hid (c.cakes.length = tn) := hrd.len
      have HC := Lib.hid hc
      have ha := HCA.out.symm.trans ha
      subst ha
      clear hc
      obtain ⟨W2, hNW2, BX2, hW2, hzW2⟩ := Box.named wo #[.slice ta tn tc, .int .i64 c.reserve] 150
      have e0 := BX2.cell 0 (.slice ta tn tc) rfl
      have BU2 := BU.lift hW2
      have hb2 := below_on hb hW2
      go_wp2
      clear hNW2 hc0 hc1 e0
      go_loopg [6, 19] tn (fun g2 d i wq => ∃ (q : Nat) (last : Int) (f2 : Nat → Bool), q + g2 = tn ∧ i = .int .i64 q ∧ d = .int .i64 last ∧ Hid (cakesLast cn (c.cakes.take q) = some last) ∧ Hid (∀ x ∈ c.cakes.take q, ¬ usedIn (m.chests.take k) x) ∧ Hid (∀ j : Nat, j < 5 → (f2 j = true ↔ (usedIn (m.chests.take k) j ∨ (j : Int) ∈ c.cakes.take q))) ∧ Box wq W0.heap.size (boolC f2) 234 ∧ Box wq wo.heap.size #[.slice ta tn tc, .int .i64 c.reserve] 150 ∧ Below W0.heap.size W0 wq)
      case atStart => exact ⟨0, -1, f, by omega, rfl, rfl, by simp [Hid, cakesLast], (fun x hx => by simp at hx), (fun j hj => by simp [hus.out j hj]), BU2, BX2, hb2⟩
      case round =>
        obtain ⟨q, last, f2, hqg, rfl, rfl, hcl, hnu, huf, BU3, BX3, hb3⟩ := hrel
        obtain ⟨g2, rfl⟩ : ∃ g2, g2 = gk := ⟨_, rfl⟩
        obtain ⟨wi, rfl⟩ : ∃ wi : World, wi = wr := ⟨_, rfl⟩
        have hw3 := below_on hW0 hb3
        have hlg := cLast_ge hcl.out
        by_cases hlt2 : q < tn
        · obtain ⟨x, hx⟩ := at_of_lt HLT.out hlt2
          obtain ⟨pb, po, hpa, hpbl, hpc⟩ := hrd.int_at hx
          have hpc := lift hw3 hpc
          have hcs := cakesLast_at (n := cn) hx
          have HX := Lib.hid hx
          rw [hcl.out] at hcs
          have HCS := Lib.hid hcs
          simp only at hpa
          subst hpa
          clear hx hcs
          have BL3 := (BX.lift hb3)
          have d3 := BL3.cell 3 (.slice v.loft.cakes.a v.loft.cakes.n v.loft.cakes.c) rfl
          rw [HCN.out] at d3
          have hlb : last ≤ 5 := by have := cLast_hi hcl.out; omega
          cases hin : inB x (last + 1) ((cn : Int) - 1)
          · have HIN := Lib.hid hin
            go_wp2_with (go_at_call 129; refine (call_b (withinM_any _ _ _ _) hin).mono ?_; rintro e w' ⟨rfl, rfl⟩)
            go_ret
            refine ⟨ret_bool ?_, hw3⟩
            symm
            refine chestsB_bad HC.out ?_
            rw [chestOk, cakesLast_none (k := q + 1) (by rw [HCS.out, cakeStep]; simp [HIN.out])]; rfl
          · have HIN := Lib.hid hin
            have hin2 := inB_iff.1 hin
            obtain ⟨j, rfl⟩ := Int.eq_ofNat_of_zero_le (show 0 ≤ x by omega)
            have hj5 : j < 5 := by omega
            have u0 := BU3.cell j _ (boolC_at f2 hj5)
            have u1 := BU3.free j
            cases hfj : f2 j
            · rw [hfj] at u0
              have HFJ := Lib.hid hfj
              clear hin2
              go_wp2_with (go_at_call 129; refine (call_b (withinM_any _ _ _ _) hin).mono ?_; rintro e w' ⟨rfl, rfl⟩)
              have BU4 := BU3.set j (.bool true)
              rw [boolC_set f2 hj5] at BU4
              have hnot : ¬ (usedIn (m.chests.take k) j ∨ (j : Int) ∈ c.cakes.take q) := fun hh => by
                have := (huf.out j hj5).2 hh
                rw [HFJ.out] at this
                cases this
              go_roundg (g2 - 1)
              case measure => omega
              case rel => exact ⟨q + 1, j, putB f2 j, by omega, by go_num, rfl, by show _ = _; rw [HCS.out, cakeStep]; simp [HIN.out], (fun x hx => by
                rw [List.take_add_one, HX.out] at hx
                rcases List.mem_append.1 hx with hx | hx
                · exact hnu.out x hx
                · simp at hx
                  rw [hx]
                  exact fun hh => hnot (Or.inl hh)), (fun i hi => by
                rw [List.take_add_one, HX.out, List.mem_append]
                unfold putB
                by_cases e : i = j
                · subst e; simp
                · rw [if_neg e, huf.out i hi]
                  have e2 : ¬ (i : Int) = (j : Int) := by omega
                  simp [e2]), BU4, BX3.far (by have := BU.lt; omega) _, below_set hb3 (Nat.le_refl _) _⟩
            · rw [hfj] at u0
              have HFJ := Lib.hid hfj
              clear hin2
              go_wp2_with (go_at_call 129; refine (call_b (withinM_any _ _ _ _) hin).mono ?_; rintro e w' ⟨rfl, rfl⟩)
              go_ret
              refine ⟨ret_bool ?_, hw3⟩
              symm
              rcases (huf.out j hj5).1 HFJ.out with ⟨c', hc', hx'⟩ | hmem
              · exact chestsB_twice HC.out (List.mem_of_getElem? HX.out) hc' hx'
              · have h1 := cakesLast_le hcl.out _ hmem
                have h2 := inB_iff.1 HIN.out
                omega
        · obtain rfl : q = tn := by omega
          have hcF : cakesLast cn c.cakes = some last := by have h1 := hcl.out; rwa [take_len HLT.out] at h1
          have HAC : Hid (areCakes cn c.cakes = decide (0 ≤ last)) := by show _ = _; rw [areCakes, hcF]
          have HNU : Hid (∀ x ∈ c.cakes, ¬ usedIn (m.chests.take k) x) := by have h1 := hnu.out; rwa [take_len HLT.out] at h1
          have HUF : Hid (∀ j : Nat, j < 5 → (f2 j = true ↔ (usedIn (m.chests.take k) j ∨ (j : Int) ∈ c.cakes))) := by have h1 := huf.out; rwa [take_len HLT.out] at h1
          have e1 := BX3.cell 1 (.int .i64 c.reserve) rfl
          clear hcF
          by_cases hl0 : last < 0
          · go_wp2
            go_ret
            refine ⟨ret_bool ?_, hw3⟩
            symm
            exact chestsB_bad HC.out (by rw [chestOk, HAC.out, decide_eq_false (by omega)]; rfl)
          · cases hr : inB c.reserve 0 20
            · have HR := Lib.hid hr
              go_wp2_with (go_at_call 129; refine (call_b (withinM_any _ _ _ _) hr).mono ?_; rintro e w' ⟨rfl, rfl⟩)
              go_ret
              refine ⟨ret_bool ?_, hw3⟩
              symm
              exact chestsB_bad HC.out (by rw [chestOk, HR.out, Bool.and_false])
            · have HR := Lib.hid hr
              go_wp2_with (go_at_call 129; refine (call_b (withinM_any _ _ _ _) hr).mono ?_; rintro e w' ⟨rfl, rfl⟩)
              go_roundg (g1 - 1)
              case measure => omega
              case rel => exact ⟨k + 1, f2, by omega, by go_num, BU3, by
                show (m.chests.take (k + 1)).all _ = true
                rw [take_all _ HC.out, hall.out, chestOk, HAC.out, HR.out, decide_eq_true (by omega)]; rfl, by
                show apart _
                rw [List.take_add_one, HC.out]
                exact apart_snoc.2 ⟨hap.out, fun c' hc' x hx hx' => HNU.out x hx ⟨c', hc', hx'⟩⟩, (fun j hj => by
                rw [HUF.out j hj, List.take_add_one, HC.out]
                simp [usedIn, or_and_right, exists_or]), hb3⟩
    · obtain rfl : k = v.chests.n := by omega
      have HQ : Hid (chestsB cn m.chests = true) := by
        have h1 := hall.out
        have h2 := hap.out
        rw [take_len HL.out] at h1 h2
        exact chestsB_yes h1 h2
      go_wp2
      go_ret
      exact ⟨ret_bool HQ.out.symm, hw⟩
end Go.Proofs.YtenfnakhijobkaaGreat
