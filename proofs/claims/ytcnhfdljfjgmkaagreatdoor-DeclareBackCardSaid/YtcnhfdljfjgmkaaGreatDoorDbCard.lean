/- declare: the card. -/
import Derived.Test.YtcnhfdljfjgmkaaGreatDoorDbWalk
import Derived.Test.YtcnhfdljfjgmkaaGreatDoorVmC
import Derived.Test.YtcnhfdljfjgmkaaGreatDoorCards
import Derived.Test.YtcnhfdljfjgmkaaGreatDoorTie
import Derived.Deep.DeepHandedRow
import Derived.Deep.DeepWitnessRowRef
import Derived.LaidMore
import Derived.Lib.LaidTab
set_option maxRecDepth 100000
namespace Go.Vm
open Go.Proofs Go.Proofs.YtcnhfdljfjgmkaaGreatDoor
open Go.ChangeShapes Go.WideShapes Go.ChangeAt Go.RowKit

theorem glob_view {W : World} (hsh : W.ShapedOpen Tryz.prog) (hL : laidMetH Tryz.prog Rows.declareBackRow.laid W) : ∃ m σ, View m σ W ∧ Glob σ := by
  rw [MakeChecks.laidMetH_plain _ _ _ (by kernel_rfl)] at hL
  obtain ⟨ps, hL, _⟩ := hL
  have g1 : Tryz.prog.globalNamed "strconv.ErrSyntax" = some 1 := by kernel_rfl
  have g2 : Tryz.prog.globalNamed "strconv.ErrRange" = some 2 := by kernel_rfl
  have g5 : Tryz.prog.globalNamed "math/bits.deBruijn64tab" = some 5 := by kernel_rfl
  obtain ⟨g, _, _, _, _, q1, _, q3, _⟩ := laid_get hL (n := "math/bits.deBruijn64tab") (d := Rows.laid_math_bits_deBruijn64tab) (by simp [Rows.declareBackRow])
  have hs : 6 ≤ W.heap.size := size_of_var g5 q3
  obtain ⟨u1, y1, a1, h1⟩ := sentinel hL (n := "strconv.ErrSyntax") (by simp [Rows.declareBackRow, Rows.laid_strconv_ErrSyntax]; exact ⟨rfl, rfl⟩) g1
  obtain ⟨u2, y2, a2, h2⟩ := sentinel hL (n := "strconv.ErrRange") (by simp [Rows.declareBackRow, Rows.laid_strconv_ErrRange]; exact ⟨rfl, rfl⟩) g2
  obtain ⟨x, hx⟩ := Tryz.laysM220.s1_3 W hsh
  have v0 : View m0 σ0 W := View.start hs
  have v1 := v0.glob (g := 0) (by decide) (cs := [.int .i64 x]) (by
    intro j v hj
    match j, hj with
    | 0, hj =>
      simp at hj; subst hj
      exact ⟨_, hx, by simp only [VR]⟩
    | j + 1, hj => simp at hj)
  obtain ⟨m2, σ2, x2, v2, _, n2, k2, o2⟩ := v1.sentinel (g := 1) (by decide) (show 6 ≤ 6 from Nat.le_refl _) h1.1 h1.2.1 h1.2.2.1 h1.2.2.2
  obtain ⟨m3, σ3, x3, v3, _, n3, k3, o3⟩ := v2.sentinel (g := 2) (by decide) (show 6 ≤ σ2.next from n2) h2.1 h2.2.1 h2.2.2.1 h2.2.2.2
  have n2' : 6 ≤ σ2.next := n2
  refine ⟨m3, σ3, v3, ⟨x, false, [], ?_⟩, ⟨u1, x2, false, [], ?_⟩, ⟨u2, x3, false, [], k3⟩, Nat.le_trans n2' n3⟩
  · rw [o3 0 (by omega) (by decide), o2 0 (show 0 < 6 by decide) (by decide), St.put_get']; rfl
  · rw [o3 1 (by omega) (by decide), k2]

theorem law {W : World} {H : Type} {enc : TypeId × Value → H} {base : Nat} {args : Array Value} {ds : List (DataW H)} {p : List MemPlace} (hval : ∀ (j : Nat) t v, Tryz.f3.params[j]? = some t → args[j]? = some v → Value.okWide Tryz.prog W .any base t v)
    (hA : DataW.TrodAll enc Tryz.prog W 0 (fun _ => true) true Tryz.f3.params.toList args.toList ds p) (hsh : W.ShapedOpen Tryz.prog) (hL : laidMetH Tryz.prog Rows.declareBackRow.laid W) :
    Calls Tryz.prog 3 args W fun e W' => e = .returned (.bool true) ∧ Below W.heap.size W W' := by
  obtain ⟨m, σ, hv, hG⟩ := glob_view hsh hL
  have hng : 0 < W.heap.size := by have := (hv.rel.dom 0 _ (hv.rel.pins 0 (by decide))).2; exact Nat.lt_of_le_of_lt (Nat.zero_le _) this
  rw [Tryz.params3] at hA hval
  obtain ⟨m', σ', xs, v', _, k', dn, rs⟩ := open_vals (S := [23, 24, 9, 3]) hng (by
    intro t ht
    simp only [List.mem_cons, List.not_mem_nil, or_false] at ht
    rcases ht with rfl | rfl | rfl | rfl <;> kernel_rfl) _ _ _ _ m σ (by simp) (fun j t v h1 h2 => hval j t v (by simpa using h1) (by simpa using h2)) hA hv
  have hG' := hG.keeps k'
  obtain ⟨d0, ds0, c0, r0, rfl, rfl, e0, dn⟩ := dn.cons_inv
  obtain ⟨d1, ds1, c1, r1, rfl, rfl, e1, dn⟩ := dn.cons_inv
  obtain ⟨d2, ds2, c2, r2, rfl, rfl, e2, dn⟩ := dn.cons_inv
  obtain ⟨rfl, rfl⟩ := dn.nil_inv
  obtain ⟨dd, parts, l1, l2, rfl, he⟩ := e0.struct_inv Tryz.underlying23
  match dd, parts, l1, l2, he, rs with
  | [q0, q1, q2, q3], [p0, p1, p2, p3], _, _, he, rs =>
    obtain ⟨k, rfl, _⟩ := (he 0 _ _ _ rfl rfl rfl).int_inv Tryz.underlying3
    obtain ⟨A, rfl, _⟩ := (he 1 _ _ _ rfl rfl rfl).str_inv Tryz.underlying9
    obtain ⟨B, rfl, _⟩ := (he 2 _ _ _ rfl rfl rfl).str_inv Tryz.underlying9
    obtain ⟨N, rfl, _⟩ := (he 3 _ _ _ rfl rfl rfl).int_inv Tryz.underlying3
    obtain ⟨v, w, rfl, hw, hn, hel⟩ := e1.slice_inv Tryz.underlying24 (by kernel_rfl)
    obtain ⟨s, rfl, _⟩ := e2.str_inv Tryz.underlying9
    obtain ⟨ws, rfl⟩ : ∃ ws : List (List Nat), w = ws.map V.str := by
      clear hw hn rs he
      induction w with
      | nil => exact ⟨[], rfl⟩
      | cons x w ih =>
        obtain ⟨ws, rfl⟩ := ih fun x hx => hel x (by simp [hx])
        obtain ⟨dx, hx⟩ := hel x (by simp)
        obtain ⟨s, e, _⟩ := hx.str_inv Tryz.underlying9
        cases e
        exact ⟨s :: ws, rfl⟩
    have hD := t_law 0 σ' (Nat.zero_le _) hG' ⟨k, A, B, N⟩ v ws hw (by simpa [maxLen] using hn) s
    simp only [mkV, Tryz.underlying23, Tryz.underlying24, Tryz.underlying9] at rs
    exact calls_of_view hD v' rs
end Go.Vm

/- WHAT IS PROVED: for every input, the Go function casebook/casebooklaw32.DeclareBack returns true, and each argument reads afterwards as it read before (the tied card Rows.DeclareBackCardSaid).
   CONDITIONS: those of the given row and of nothing else: the five listed package-level variables hold at the start what the program's text lays (the card ties that to the text); arguments may share memory; the order of evaluation that Go leaves open may be any.
   HOW: a small evaluator of the program's code, proved sound against the model (the texts of this folder whose names end in A, B, C), runs the chapter's closed example and is walked over the law with open arguments. -/
set_option maxRecDepth 100000
namespace Go.Proofs.YtcnhfdljfjgmkaaGreatDoor.declareBack
open Go.ChangeShapes Go.WideShapes Go.ChangeAt Go.RowKit

theorem own : ownKnob Tryz.prog.godebug = none := by kernel_rfl
theorem laidOut : laidOutB Tryz.prog = true := by kernel_rfl

abbrev inArgs : Array Value := #[.agg #[.int .i64 0, .string ⟨#[]⟩, .string ⟨#[]⟩, .int .i64 0], .slice none 0 0, .string ⟨#[]⟩]

theorem contract (H : Type) (enc : TypeId × Value → H) (W : World) (base : Nat) (args : Array Value) (ds gs : List (DataW H)) (before : List MemPlace)
    (hval : ∀ (j : Nat) t v, Tryz.f3.params[j]? = some t → args[j]? = some v → Value.okWide Tryz.prog W .any base t v)
    (hW : DataW.Whole enc Tryz.prog Tryz.f3.params.toList Rows.declareBackSpec.vars false W args.toList ds gs before) (hL : laidMetH Tryz.prog Rows.declareBackRow.laid W) (hsh : W.ShapedOpen Tryz.prog) :
    Calls Tryz.prog 3 args W fun e W' => ∃ v, e = .returned v ∧ Rows.declareBackSpec.post enc Tryz.prog Tryz.f3 false true false false W args v W' := by
  have hW' := hW
  obtain ⟨p, q, hA, hV, rfl, hfz, hnd⟩ := hW
  refine (Go.Vm.law hval hA hsh hL).mono fun e W' ⟨he, hb⟩ => ?_
  subst he
  refine ⟨_, rfl, Go.Vm.law_post (t := 4) laidOut ?_ (by kernel_rfl) Tryz.underlying4 rfl ?_ hW' hb⟩
  · intro t ht
    rw [Tryz.params3] at ht
    simp only [List.mem_cons, List.not_mem_nil, or_false] at ht
    rcases ht with rfl | rfl | rfl <;> exact ⟨by kernel_rfl, of_decide_eq_true (by kernel_rfl)⟩
  · rw [Tryz.params3] at hA
    obtain ⟨v0, vs0, d0, ds0, p0, q0, _, rfl, rfl, h0, hA⟩ := trodAll_cons hA
    obtain ⟨v1, vs1, d1, ds1, p1, q1, _, rfl, rfl, h1, hA⟩ := trodAll_cons hA
    obtain ⟨v2, vs2, d2, ds2, p2, q2, _, rfl, rfl, h2, hA⟩ := trodAll_cons hA
    obtain ⟨rfl, rfl, rfl⟩ := trodAll_nil hA
    rfl

noncomputable abbrev laidWorld (os : Os) : World := World.doorLaid Tryz.prog 200 os
theorem laid_met (os : Os) : laidMetH Tryz.prog Rows.declareBackRow.laid ((laidWorld os).forCall (fun _ _ => 0) ⟨#[], inArgs, []⟩).memory := by
  rw [MakeChecks.laidMetH_plain _ _ _ (by kernel_rfl)]
  exact laidMet_of_run' 8 (by kernel_rfl) (by kernel_rfl)
theorem reads (os : Os) {H : Type} (enc : TypeId × Value → H) : ∃ places, DataW.whole enc Tryz.prog ((laidWorld os).forCall (fun _ _ => 0) ⟨#[], inArgs, []⟩).memory Tryz.f3.params.toList Rows.declareBackSpec.vars false inArgs.toList 8 =
    some ([.agg [.lit (.int .i64 0), .lit (.string []), .lit (.string []), .lit (.int .i64 0)], .nil, .lit (.string [])], [], places) :=
  ⟨[], by kernel_rfl⟩

set_option maxRecDepth 100000 in
theorem lifted (os : Os) (started : os.Started) (H : Type) (enc : TypeId × Value → H) (F : Stop.Interp) :
    ReturnsInHanded {} Tryz.checked os 3 .any ((OpenSpec.ofChange Rows.declareBackSpec).preRow enc Tryz.prog Tryz.f3 Rows.declareBackRow.domain false Rows.declareBackRow.laid) (((OpenSpec.ofChange Rows.declareBackSpec).at F).post enc Tryz.prog Tryz.f3 false true false false) := by
  obtain ⟨places, hx⟩ := reads os enc
  refine returnsInHanded_of_row (C := Tryz.checked) (s := OpenSpec.ofChange Rows.declareBackSpec) own started (by kernel_rfl) Tryz.func3
    (witness_row_atRef (enc := enc) (C := Tryz.checked) false (laidWorld os) inArgs rfl (by kernel_rfl) (by kernel_rfl) (by kernel_rfl)
      (OpenSpec.preRow_of_cond 8 hx (by kernel_rfl) (fun k hk => by cases hk) (by kernel_rfl) (laid_met os))) ?_
  intro W base args ds gs before hval hW _ _ _ hL hsh _
  exact contract H enc W base args ds gs before hval hW hL hsh

theorem said : Rows.DeclareBackSaid :=
  OpenClaim.holds_of_cond 3 Tryz.f3 rfl rfl rfl rfl rfl rfl rfl ⟨rfl, rfl, rfl, rfl, rfl⟩ rfl rfl rfl rfl rfl (by kernel_rfl) Tryz.func3 (by kernel_rfl)
    (of_decide_eq_true (by kernel_rfl)) (by unfold Func.isWrapper; first | (rw [if_pos (by decide +kernel)]; kernel_rfl) | (rw [if_neg (by decide +kernel)]; exact ⟨rfl, rfl⟩))
    (fun os started H enc _ F => by rw [OpenClaim.pre_eq_preRow]; exact lifted os started H enc F)

theorem plain (f : FuncId) (fn : Func) (hf : Tryz.pinned.checked.prog.funcNamed "casebook/casebooklaw32.DeclareBack" = some f) (hfn : Tryz.pinned.checked.prog.funcs[f]? = some fn) :
    true = Tryz.pinned.checked.prog.looks [] ∧ ∀ (j : Nat) t, fn.params[j]? = some t → Tryz.pinned.checked.prog.wantsStandIn t = false := by
  obtain rfl : f = 3 := Option.some.inj ((show Tryz.prog.funcNamed "casebook/casebooklaw32.DeclareBack" = some 3 by kernel_rfl).symm.trans hf) |>.symm
  obtain rfl : fn = Tryz.f3 := (Option.some.inj (Tryz.func3.symm.trans hfn)).symm
  refine ⟨by kernel_rfl, fun j t ht => ?_⟩
  rw [Tryz.params3] at ht
  have hm := Array.mem_of_getElem? ht
  simp only [List.mem_toArray, List.mem_cons, List.not_mem_nil, or_false] at hm
  rcases hm with rfl | rfl | rfl
  · exact (show Tryz.prog.wantsStandIn 23 = false by kernel_rfl)
  · exact (show Tryz.prog.wantsStandIn 24 = false by kernel_rfl)
  · exact (show Tryz.prog.wantsStandIn 9 = false by kernel_rfl)

theorem card : Rows.DeclareBackCardSaid :=
  Claim7.holds_tied_plain_at .later [] _ _ _ _ said (fun _ h => by cases h) (by kernel_rfl) (fun _ h => by cases h) declareBack_row_tie rfl ⟨rfl, rfl⟩ (by kernel_rfl) rfl plain (by kernel_rfl)
end Go.Proofs.YtcnhfdljfjgmkaaGreatDoor.declareBack

