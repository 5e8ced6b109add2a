/- Building, converting, appending, copying. -/
import Derived.Test.YtcnhfdljfjgmkaaGreatDoorVmA
import Derived.Great.FillDense
import Derived.Great.BuildSlice
import Derived.Laws.BytesString
import Derived.Lib.ConvBytes
import Derived.MapKept
import Derived.ChangeKeysEq
import Derived.Laws.StructEq
import Derived.Laws.Cover3
import Derived.LoopN
import Derived.Orders
namespace Go.Vm
variable [Gl]

omit [Gl] in
theorem zip_over (off : Nat) (v cells : Array Value) (h : off + v.size ≤ cells.size) :
    (v.zipIdx.foldl (fun cs (x : Value × Nat) => cs.setIfInBounds (off + x.2) x.1) cells).toList = cells.toList.take off ++ v.toList ++ cells.toList.drop (off + v.size) := by
  have hz : v.zipIdx.foldl (fun cs (x : Value × Nat) => cs.setIfInBounds (off + x.2) x.1) cells = (v.toList.zipIdx 0).foldl (fun cs (x : Value × Nat) => cs.setIfInBounds (off + x.2) x.1) cells := by
    rw [← Array.foldl_toList]; simp
  rw [hz]
  obtain ⟨h1, h2⟩ := Great.foldl_set off v.toList 0 cells
  apply List.ext_getElem?
  intro k
  rw [Array.getElem?_toList, h2 k]
  simp only [Nat.add_zero, Array.length_toList]
  by_cases hk : off ≤ k ∧ k < off + v.size ∧ k < cells.size
  · rw [if_pos hk, List.append_assoc, List.getElem?_append_right (by simp; omega), List.getElem?_append_left (by simp; omega)]
    congr 1
    simp; omega
  · rw [if_neg hk]
    by_cases h3 : k < off
    · rw [List.append_assoc, List.getElem?_append_left (by simp; omega)]
      simp [h3]
    · rw [List.append_assoc, List.getElem?_append_right (by simp; omega), List.getElem?_append_right (by simp; omega), List.getElem?_drop]
      rw [← Array.getElem?_toList]
      congr 1
      simp; omega

/-- Parts that read as the model's. -/
def PartsR (m : Mp) (place : Nat → Option (Nat × Nat)) (ps : List Part) (cps : List (Nat × Value)) : Prop :=
  ps.length = cps.length ∧ ∀ (j : Nat) (p : Part), ps[j]? = some p → ∃ i cv, cps[j]? = some (i, cv) ∧ place i = some (p.off, p.n) ∧ VR m p.v cv

omit [Gl] in
theorem fillP_R {m : Mp} {place : Nat → Option (Nat × Nat)} : ∀ {ps : List Part} {cps : List (Nat × Value)} {cs r : List V} {cc : Array Value}, PartsR m place ps cps → VRs m cs cc.toList → fillP ps cs = some r →
    ∃ rr, Instr.fill place cc cps = some rr ∧ VRs m r rr.toList
  | [], cps, cs, r, cc, hp, hv, h => by
    have : cps = [] := List.eq_nil_of_length_eq_zero hp.1.symm
    subst this
    cases h
    exact ⟨cc, by simp [Instr.fill], hv⟩
  | p :: ps, cps, cs, r, cc, hp, hv, h => by
    obtain ⟨i, cv, h1, h2, h3⟩ := hp.2 0 p (by simp)
    cases cps with
    | nil => simp at h1
    | cons c cps =>
      simp at h1
      subst h1
      change cond (Nat.beq (lenN p.v.cells) p.n) (Option.rec (motive := fun _ => Option (List V)) none (fun cs => fillP ps cs) (over cs p.off p.v.cells)) none = some r at h
      rcases cond_some h with ⟨h4, h⟩ | ⟨_, h⟩
      · cases ho : over cs p.off p.v.cells with
        | none => rw [ho] at h; cases h
        | some cs' =>
          rw [ho] at h
          obtain ⟨h5, h6⟩ := over_some _ _ _ ho
          have hcv := VR_cells h3
          have hl := VRs_length hcv
          have hl2 := VRs_length hv
          have h7 : p.v.cells.length = p.n := by rw [lenN_eq] at h4; exact Nat.eq_of_beq_eq_true h4
          have h8 : cv.cells.size = p.n := by simp at hl; omega
          have hsz : p.off + cv.cells.size ≤ cc.size := by simp at hl2; omega
          have hv' : VRs m cs' (cv.cells.zipIdx.foldl (fun cs (x : Value × Nat) => cs.setIfInBounds (p.off + x.2) x.1) cc).toList := by
            rw [zip_over _ _ _ hsz, h6, h7, h8]
            exact VRs_append (VRs_append (VRs_take _ hv) hcv) (VRs_drop _ hv)
          obtain ⟨rr, h9, h10⟩ := fillP_R (ps := ps) (cps := cps) ⟨by simpa using hp.1, fun j q hj => by simpa using hp.2 (j + 1) q (by simpa using hj)⟩ hv' h
          refine ⟨rr, ?_, h10⟩
          have h11 : ¬ (p.off + p.n > cc.size) := by omega
          simp only [Instr.fill, h2, h8, h11]
          simpa using h9
      · cases h

section
variable {P : Program} {o : Oper} {a : Act} {e : E} {lo : Nat} {m : Mp} {σ σ' : St} {w : World} {v : V} {ev : Ev}

theorem opds3_R (hp : Pins m) (hE : ER m e a) (place : Nat → Option (Nat × Nat)) : ∀ (ps : List (Nat × Operand)) (r : List (Nat × Nat × Opd)),
    ps.mapM (fun p => (place p.1).bind fun q => (cOpd p.2).map fun y => (q.1, q.2, y)) = some r → PartsR m place (opds3 r e) (ps.map fun p => (p.1, a.eval p.2))
  | [], r, h => by simp at h; subst h; exact ⟨rfl, fun j p hj => by cases hj⟩
  | p :: ps, r, h => by
    rw [List.mapM_cons] at h
    simp only [Option.bind_eq_bind, Option.bind_eq_some_iff, Option.pure_def, Option.some.injEq, Option.map_eq_some_iff] at h
    obtain ⟨q, ⟨q', h1, y, h2, rfl⟩, r', h3, rfl⟩ := h
    obtain ⟨h4, h5⟩ := opds3_R hp hE place ps r' h3
    have h6' : (opds3 ((q'.1, q'.2, y) :: r') e) = ⟨q'.1, q'.2, opd y e⟩ :: opds3 r' e := rfl
    refine ⟨by rw [h6']; simpa using h4, fun j p' hj => ?_⟩
    cases j with
    | zero =>
      have : p' = ⟨q'.1, q'.2, opd y e⟩ := by
        have h6 : (opds3 ((q'.1, q'.2, y) :: r') e) = ⟨q'.1, q'.2, opd y e⟩ :: opds3 r' e := rfl
        rw [h6] at hj; simpa using hj.symm
      subst this
      exact ⟨p.1, a.eval p.2, by simp, h1, opd_VR hp hE h2⟩
    | succ j =>
      have h6 : (opds3 ((q'.1, q'.2, y) :: r') e) = ⟨q'.1, q'.2, opd y e⟩ :: opds3 r' e := rfl
      rw [h6] at hj
      simpa using h5 j p' (by simpa using hj)

theorem opds2_R (hp : Pins m) (hE : ER m e a) (esz : Nat) : ∀ (ps : List (Nat × Operand)) (r : List (Nat × Opd)),
    ps.mapM (fun p => (cOpd p.2).map fun y => (p.1, y)) = some r → PartsR m (fun i => some (i * esz, esz)) (opds2 r esz e) (ps.map fun p => (p.1, a.eval p.2))
  | [], r, h => by simp at h; subst h; exact ⟨rfl, fun j p hj => by cases hj⟩
  | p :: ps, r, h => by
    rw [List.mapM_cons] at h
    simp only [Option.bind_eq_bind, Option.bind_eq_some_iff, Option.pure_def, Option.some.injEq, Option.map_eq_some_iff] at h
    obtain ⟨q, ⟨y, h2, rfl⟩, r', h3, rfl⟩ := h
    obtain ⟨h4, h5⟩ := opds2_R hp hE esz ps r' h3
    have h6 : (opds2 ((p.1, y) :: r') esz e) = ⟨Nat.mul p.1 esz, esz, opd y e⟩ :: opds2 r' esz e := rfl
    refine ⟨by rw [h6]; simpa using h4, fun j p' hj => ?_⟩
    rw [h6] at hj
    cases j with
    | zero =>
      have : p' = ⟨Nat.mul p.1 esz, esz, opd y e⟩ := by simpa using hj.symm
      subst this
      exact ⟨p.1, a.eval p.2, by simp, rfl, opd_VR hp hE h2⟩
    | succ j => simpa using h5 j p' (by simpa using hj)

omit [Gl] in
theorem aggO_some {x : Option (List V)} (h : aggO x = some v) : ∃ l, x = some l ∧ v = .agg l := by
  cases x with
  | none => cases h
  | some l => cases h; exact ⟨l, rfl, rfl⟩

theorem s_build {t : TypeId} {parts : Array (Nat × Operand)} {zero : List V} {r : List (Nat × Nat × Opd)} (ho : o.op = .build t parts) (hz : zeroB P t = some zero) {place : Nat → Option (Nat × Nat)}
    (hp : parts.toList.mapM (fun p => (place p.1).bind fun q => (cOpd p.2).map fun y => (q.1, q.2, y)) = some r)
    (hpl : ∀ z : Value, ∀ rr, zeroValue t = zeroValue t → Instr.fill place z.cells (parts.toList.map fun p => (p.1, a.eval p.2)) = some rr → (zeroValue (t)).run P w = .ok z w →
      (Instr.build t (parts.map fun (i, x) => (i, a.eval x))).run P w = .ok (.agg rr) w)
    (hE : ER m e a) (hR : Rel lo m σ w) (h : oBuild zero r ev lo e σ = .v v σ') : VSim P o a lo m σ w v σ' := by
  obtain ⟨h1, rfl⟩ := val_v h
  obtain ⟨l, h2, rfl⟩ := aggO_some h1
  obtain ⟨i, z, hi, hz0, hzr, _⟩ := zeroB_some hz
  obtain ⟨rr, h3, h4⟩ := fillP_R (opds3_R hR.pins hE place _ _ hp) (hzr m) h2
  refine VSim.same hR (cv := .agg rr) ?_ (by simp only [VR]; exact ⟨_, rfl, h4⟩)
  have := hpl z rr rfl h3 (by simp [zeroValue, typeInfo, hi, hz0])
  simp [execOp, ho, this]

omit [Gl] in
theorem madeSl_v {len : Nat} {x : Option (List V)} (h : madeSl len σ x = .v v σ') : ∃ cs, x = some cs ∧ True ∧ v = .slice σ.next 0 len (.is len) ∧ σ' = σ.new (.cells cs true []) := by
  cases x with
  | none => cases h
  | some cs => obtain ⟨h1, h2, h3⟩ := made_v h; exact ⟨cs, rfl, h1, h2, h3⟩

theorem s_bslice {t el : TypeId} {len : Nat} {s : Nat × Nat} {parts : Array (Nat × Operand)} {zero : List V} {r : List (Nat × Opd)} (ho : o.op = .buildSlice t len parts) (ht : P.underlying t = some (.slice el)) (hs : sizeB P el = some s) (hz : zeroB P el = some zero)
    (hp : parts.toList.mapM (fun p => (cOpd p.2).map fun y => (p.1, y)) = some r) (hsm : ¬ 2 ^ 24 < len * s.1) (hE : ER m e a) (hR : Rel lo m σ w)
    (h : oBslice (List.flatten (List.replicate len zero)) len s.1 r ev lo e σ = .v v σ') : VSim P o a lo m σ w v σ' := by
  obtain ⟨cs, h1, hf, rfl, rfl⟩ := madeSl_v h
  obtain ⟨i, z, hi, hz0, hzr, hzl⟩ := zeroB_some hz
  obtain ⟨i', hi', rfl⟩ := sizeB_some hs
  rw [hi] at hi'; cases hi'
  have hzs : z.cells.size = i.size := by have := VRs_length (hzr m); simp at this; omega
  simp only at h1 hsm hp
  generalize hcc : ((List.replicate len z.cells.toList).flatten).toArray = cc
  have hvr : VRs m (List.replicate len zero).flatten cc.toList := by rw [← hcc]; exact VRs_flatten (hzr m) len
  obtain ⟨rr, h3, h4⟩ := fillP_R (opds2_R hR.pins hE i.size _ _ hp) hvr h1
  obtain ⟨g1, g2⟩ := hR.allocAll h4 true el
  refine ⟨.slice (some ⟨w.heap.size, 0, none⟩) len len, _, _, .inl ?_, ?_, g1, g2⟩
  · have h3' : Instr.fill (fun i_1 => some (i_1 * i.size, i.size)) cc (parts.map fun (i, x) => (i, a.eval x)).toList = some rr := by
      simpa using h3
    by_cases hz' : len * i.size = 0
    · have hcc0 : cc = #[] := by
        rw [← hcc]
        rcases Nat.mul_eq_zero.1 hz' with h9 | h9
        · simp [h9]
        · have : z.cells.toList = [] := List.eq_nil_of_length_eq_zero (by simpa using hzs.trans h9)
          rw [this]; simp
      rw [hcc0] at h3'
      have he2 : Array.map (fun _ => (default : Value)) (Array.range 0) = #[] := by apply Array.ext'; simp
      have h3'' : Instr.fill (fun i_1 => some (i_1 * i.size, i.size)) #[] (parts.toList.map fun x => match x with | (i, x) => (i, a.eval x)) = some rr := by simpa using h3'
      simp [execOp, ho, Instr.buildSlice, run_underlying ht, sizeOf, typeInfo, hi, hz', newRow, he2]
      rw [h3'']
      simp
    · have hcc1 := range_map_mod z.cells (by rw [hzs]; exact Nat.pos_of_ne_zero (fun h9 => hz' (by rw [h9, Nat.mul_zero]))) len
      rw [hzs] at hcc1
      have := run_buildSlice (P := P) w t el len (parts.map fun (i, x) => (i, a.eval x)) rr i z ht hi hz0 (by omega) hz' (by rw [hzs, hcc1, hcc]; exact h3')
      simp [execOp, ho, this]
  · simp only [VR]
    exact ⟨_, _, _, upd_same _ _ _, rfl, Nat.le_refl _, fun _ => by simp, rfl⟩

omit [Gl] in
theorem bytesV_VRs (m : Mp) : ∀ (l : List UInt8), VRs m (bytesV (l.map (·.toNat))) (l.map fun b => Value.int .u8 (b.toNat : Int))
  | [] => VRs_nil m
  | b :: l => by
    show VRs m (V.int .u8 (.ofNat b.toNat) :: bytesV (l.map (·.toNat))) (Value.int .u8 (b.toNat : Int) :: l.map _)
    exact VRs_cons (by simp [VR]) (bytesV_VRs m l)

omit [Gl] in
theorem bytesV_length : ∀ l : List Nat, (bytesV l).length = l.length
  | [] => rfl
  | _ :: l => congrArg Nat.succ (bytesV_length l)

omit [Gl] in
theorem grownCap_need (w : World) (need old : Nat) (e : TypeId) : need ≤ grownCap w need old e := grownCap_ge w need old e

theorem s_bytesOf {s d el : TypeId} {x : Operand} {x' : Opd} (ho : o.op = .convert s d x) (hs : P.underlying s = some .string) (hd : P.underlying d = some (.slice el)) (hel : P.underlying el = some (.int .u8)) (hx : cOpd x = some x')
    (hE : ER m e a) (hR : Rel lo m σ w) (h : oBytesOf x' ev lo e σ = .v v σ') : VSim P o a lo m σ w v σ' := by
  have hv := opd_VR hR.pins hE hx
  have h' : bytesOfV σ (opd x' e) = .v v σ' := h
  unfold bytesOfV at h'
  split at h'
  · rename_i l hb
    obtain ⟨_, h'⟩ := cond_v h'
    obtain ⟨hf, rfl, rfl⟩ := made_v h'
    rw [hb] at hv
    simp only [VR] at hv
    obtain ⟨bs, hv, rfl⟩ := hv
    have hcap := grownCap_need w bs.size 0 el
    have hlen : (bs.data.toList.map (·.toNat)).length = bs.size := by simp
    have hrun := Lib.run_convert_string_bytes (P := P) w s d el bs hs hd hel
    have hnew := Lib.bytesWorld_at_new w el bs
    obtain ⟨g1, g2⟩ := hR.grow (w' := Lib.bytesWorld w el bs) (.cells (bytesV (bs.data.toList.map (·.toNat))) false []) ⟨w.heap.size, 0, grownCap w bs.size 0 el⟩ rfl
      (Lib.bytesWorld_size w el bs) (fun k hk => Lib.bytesWorld_at_old w el bs k hk) ⟨rfl, rfl, rfl⟩
      (fun cs rw' anc hb' j v' hj => by
        cases hb'
        obtain ⟨cv, h1, h2⟩ := ((VRs_iff m _ _).1 (bytesV_VRs m bs.data.toList)).2 j v' hj
        refine ⟨cv, ?_, h2⟩
        have hlt := (List.getElem?_eq_some_iff.1 h1).1
        simp only [List.length_map, Array.length_toList] at hlt
        rw [cell_of_row _ _ _ _ _ _ hnew]
        simp only [Nat.zero_add, Lib.bytesCells]
        rw [Array.getElem?_append_left (by simpa using hlt)]
        simpa using h1)
      (fun es hb' => by cases hb') (fun cs anc hb' => by cases hb')
    refine ⟨_, _, _, .inl (by simp only [execOp, ho, hv]; simp [hrun]; rfl), ?_, g1, g2⟩
    simp only [VR]
    refine ⟨_, _, _, upd_same _ _ _, by rw [sizeS_eq, hlen], by rw [sizeS_eq, hlen]; exact hcap, fun _ => by simp, ?_⟩
    simp [CapOk]
  · cases h'

end

end Go.Vm

/- Appending, copying, clearing; bytes to a string. -/
namespace Go.Vm
variable [Gl]

section
variable {P : Program} {o : Oper} {a : Act} {e : E} {lo : Nat} {m : Mp} {σ σ' : St} {w : World} {v : V} {ev : Ev}

/-- The first cells of a slice are loaded. -/
theorem Rel.loadSl {P : Program} (h : Rel lo m σ w) {b q len : Nat} {_cap : Cap} {i : Info} {A : Addr} {c k : Nat} (hi : m b = some i) (hlen : len ≤ c) (hA : c ≠ 0 → A = ⟨i.blk, i.base + q, none⟩) {esz : Nat} (hk : k ≤ len)
    {cs : List V} (hr : readN σ b q (k * esz) = some cs) :
    ∃ ccs : List Value, VRs m cs ccs ∧ cs.length = k * esz ∧ ∀ w', w'.heap = w.heap → (loadCells A (k * esz)).run P w' = .ok ccs.toArray w' := by
  obtain ⟨ccs, h1, h2, h3, h4, _⟩ := h.loads (P := P) hi hr
  refine ⟨ccs, h1, h2, fun w' hw => ?_⟩
  by_cases hc : c = 0
  · have hk0 : k = 0 := by omega
    have : ccs = [] := List.eq_nil_of_length_eq_zero (by rw [h3, hk0, Nat.zero_mul])
    rw [hk0, Nat.zero_mul, this]
    rfl
  · rw [hA hc]
    exact h4 w' hw

omit [Gl] in
theorem takeN_bytes {l r : List V} {n : Nat} (h : takeN n l = some r) (hn : n = l.length) : r = l := by
  obtain ⟨h1, _⟩ := takeN_some n h
  rw [h1, hn, List.take_length]

/-- What is appended, or copied from: its length, its first cells. -/
theorem Rel.first {P : Program} (h : Rel lo m σ w) {xv : V} {xc : Value} (hv : VR m xv xc) {n k esz : Nat} (hn : lenV xv = some n) (hk : k ≤ n) {news : List V} (hf : firstN esz k σ xv = some news) :
    ∃ cnews : List Value, VRs m news cnews ∧ news.length = k * esz ∧ Builtin.lenOf xc = pure n ∧ ∀ w', w'.heap = w.heap → (Builtin.firstCells esz k xc).run P w' = .ok cnews.toArray w' := by
  cases xv with
  | nilsl =>
    simp only [VR] at hv; subst hv
    cases hn
    cases hf
    have : k = 0 := by omega
    subst this
    exact ⟨[], VRs_nil m, by simp, rfl, fun w' _ => run_firstCells_none w' esz 0 0 0⟩
  | slice b q len cap =>
    simp only [VR] at hv
    obtain ⟨i, A, c, hi, rfl, hlen, hA, _⟩ := hv
    cases hn
    obtain ⟨ccs, h1, h2, h3⟩ := h.loadSl (P := P) (_cap := cap) hi hlen hA hk hf
    exact ⟨ccs, h1, h2, rfl, fun w' hw => by simpa [Builtin.firstCells] using h3 w' hw⟩
  | str s =>
    simp only [VR] at hv
    obtain ⟨bs, rfl, rfl⟩ := hv
    change cond (Nat.beq esz 1) (takeN k (bytesV (bs.data.toList.map (·.toNat)))) none = some news at hf
    rcases cond_some hf with ⟨he, hf⟩ | ⟨_, hf⟩
    case inr => cases hf
    have he' := Nat.eq_of_beq_eq_true he
    subst he'
    have hn' : n = bs.size := by
      have : some (sizeS (bs.data.toList.map (·.toNat))) = some n := hn
      rw [sizeS_eq] at this
      simpa using this.symm
    obtain ⟨h1, h2⟩ := takeN_some k hf
    refine ⟨(bs.data.toList.map fun b => Value.int .u8 (b.toNat : Int)).take k, by rw [h1]; exact VRs_take k (bytesV_VRs m _), by omega, by rw [hn']; rfl, fun w' _ => ?_⟩
    simp only [Builtin.firstCells]
    show Result.ok _ w' = _
    congr 1
    apply Array.ext'
    simp [List.extract_eq_take_drop]
  | _ => cases hn

omit [Gl] in
theorem nat_beq_false {a b : Nat} (h : Nat.beq a b = false) : a ≠ b := fun e => by subst e; simp at h

theorem append_core {ts tx ty el : TypeId} {i : TypeInfo} {z : Value} {dx : TypeDesc} (hts : P.underlying ts = some (.slice el)) (htx : P.underlying tx = some dx) (hdx : (∃ e', dx = .slice e') ∨ dx = .string)
    (hi : P.info? el = some i) (hz : i.zero = some z) (hzs : z.cells.size = i.size) (hR : Rel lo m σ w) {sv : V} {sc xc : Value} (hsv : VR m sv sc) {n : Nat} {news : List V} {cnews : List Value} (hnv : VRs m news cnews)
    (hnl : news.length = n * i.size) (hlen : Builtin.lenOf xc = pure n) (hfirst : ∀ w', w'.heap = w.heap → (Builtin.firstCells i.size n xc).run P w' = .ok cnews.toArray w')
    (h : appendV lo i.size i.bytes sv n news σ = .v v σ') :
    ∃ cv m' w', (Builtin.append_ #[ts, tx] ty #[sc, xc]).run P w = .ok cv w' ∧ VR m' v cv ∧ Rel lo m' σ' w' ∧ Ext lo m σ w m' σ' w' := by
  have hcl := VRs_length hnv
  have hdr : Rel lo m σ w.drew := hR.heap rfl
  have xdr : Ext lo m σ w m σ w.drew := Ext.drew lo m σ w _
  -- a new row
  have grown : ∀ (base : Option Addr) (sLen sCap : Nat) (olds : List V) (colds : List Value), VRs m olds colds → olds.length = sLen * i.size →
      (Builtin.firstCells i.size sLen (.slice base sLen sCap)).run P w.drew = .ok colds.toArray w.drew → sCap < sLen + n → roomE i.size i.bytes (sLen + n) = true → True →
      ∀ (σ1 : St) (hR1 : Rel lo m σ1 w.drew) (xd : Ext lo m σ w m σ1 w.drew) (hnx : σ1.next = σ.next) (anc : List Nat) (hanc : ∀ a ∈ anc, ∃ j, m a = some j),
      ∃ cv m' w', (Builtin.append_ #[ts, tx] ty #[.slice base sLen sCap, xc]).run P w = .ok cv w' ∧ VR m' (.slice σ.next 0 (sLen + n) (.un i.size)) cv ∧
        Rel lo m' (σ1.new (.cells (olds ++ news) true anc)) w' ∧ Ext lo m σ w m' (σ1.new (.cells (olds ++ news) true anc)) w' := by
    intro base sLen sCap olds colds hov hol hold hg hroom hf σ1 hR1 xd hnx anc hanc
    have hroom' : 1 ≤ i.size ∧ (sLen + n) * i.bytes ≤ 140737488355328 ∧ sLen + n ≤ 140737488355328 := by
      unfold roomE at hroom
      cases h1 : Nat.ble 1 i.size with
      | false => rw [h1] at hroom; cases hroom
      | true => rw [h1] at hroom; exact ⟨Nat.le_of_ble_eq_true h1, roomB_some hroom⟩
    have hcol := VRs_length hov
    have hrun := app_grow (P := P) w ts tx ty el i z dx hts htx hdx hi hz base sLen sCap n xc colds cnews hlen hold (hfirst w.drew rfl) hg (by omega) (growslice_fits hg hroom'.2.1)
    have hge := grownCap_ge w (sLen + n) sCap el
    generalize hgc : grownCap w (sLen + n) sCap el = gc at hrun hge
    generalize hcc : ((colds ++ cnews).toArray ++ Builtin.zeroCells z.cells (gc - (sLen + n))) = cc at hrun
    have hccs : cc.size = gc * i.size := by
      rw [← hcc, Array.size_append, size_zeroCells, hzs]
      simp only [List.size_toArray, List.length_append]
      rw [← hcol, ← hcl, hol, hnl, ← Nat.add_mul, ← Nat.add_mul]
      congr 1; omega
    have hol2 : (olds ++ news).length = (sLen + n) * i.size := by rw [List.length_append, hol, hnl, Nat.add_mul]
    have htk : cc.toList.take (olds ++ news).length = colds ++ cnews := by
      rw [← hcc, Array.toList_append]
      simp only
      rw [List.take_append_of_le_length (by simp; omega)]
      exact List.take_of_length_le (by simp; omega)
    obtain ⟨g1, g2⟩ := hR1.allocC (cs := olds ++ news) (cc := cc) (by rw [htk]; exact VRs_append hov hnv) true el (gc * i.size)
      (by rw [hol2]; exact Nat.mul_le_mul_right _ hge) (by rw [hccs]; exact Nat.le_refl _) anc hanc
    refine ⟨_, _, _, hrun, ?_, g1, xd.trans g2⟩
    simp only [VR]
    refine ⟨_, _, _, by rw [hnx]; exact upd_same _ _ _, rfl, hge, fun _ => by simp, ?_⟩
    simp only [CapOk]
    omega
  unfold appendV at h
  split at h
  · simp only [VR] at hsv; subst hsv
    cases hn0 : Nat.beq n 0 with
    | true =>
      rw [hn0] at h; cases h
      have hn := Nat.eq_of_beq_eq_true hn0
      subst hn
      have : cnews = [] := List.eq_nil_of_length_eq_zero (by omega)
      subst this
      refine ⟨.slice none 0 0, m, w, ?_, by simp [VR], hR, Ext.refl _ _ _ _⟩
      rw [app_room (P := P) w ts tx ty el i dx hts htx hdx hi none 0 0 0 xc [] hlen (hfirst w rfl) (Nat.le_refl _)]
      simp
    | false =>
      rw [hn0] at h
      obtain ⟨hroom, h⟩ := cond_v h
      obtain ⟨hf, rfl, rfl⟩ := made_v h
      have hn := nat_beq_false hn0
      have := grown none 0 0 [] [] (VRs_nil m) (by simp) (run_firstCells_none _ _ _ _ _) (by omega) (by simpa using hroom) hf σ hdr xdr rfl [] (fun a ha => by cases ha)
      simpa using this
  · rename_i b q len cap
    simp only [VR] at hsv
    obtain ⟨i0, A, c, hi0, rfl, hlc, hA, hcap⟩ := hsv
    cases hn0 : Nat.beq n 0 with
    | true =>
      rw [hn0] at h; cases h
      have hn := Nat.eq_of_beq_eq_true hn0
      subst hn
      have : cnews = [] := List.eq_nil_of_length_eq_zero (by omega)
      subst this
      refine ⟨.slice (some A) len c, m, w, ?_, by simp only [VR]; exact ⟨i0, A, c, hi0, rfl, hlc, hA, hcap⟩, hR, Ext.refl _ _ _ _⟩
      rw [app_room (P := P) w ts tx ty el i dx hts htx hdx hi (some A) len c 0 xc [] hlen (hfirst w rfl) (by omega)]
      simp [storeCells]
    | false =>
      rw [hn0] at h
      obtain ⟨hroom, h⟩ := cond_v h
      have hn := nat_beq_false hn0
      have hsz1 : 1 ≤ i.size := by
        unfold roomE at hroom
        cases h1 : Nat.ble 1 i.size with
        | false => rw [h1] at hroom; cases hroom
        | true => exact Nat.le_of_ble_eq_true h1
      -- in place
      have inplace : ∀ σ2, writeN lo σ b (q + len * i.size) news = some σ2 → len + n ≤ c → ∀ cap', CapOk i0 q c cap' →
          ∃ cv m' w', (Builtin.append_ #[ts, tx] ty #[.slice (some A) len c, xc]).run P w = .ok cv w' ∧ VR m' (.slice b q (len + n) cap') cv ∧ Rel lo m' σ2 w' ∧ Ext lo m σ w m' σ2 w' := by
        intro σ2 hw2 hle cap' hcap'
        obtain ⟨w', h1, h2, h3⟩ := hR.write (P := P) hi0 hnv hw2
        refine ⟨.slice (some A) (len + n) c, m, w', ?_, by simp only [VR]; exact ⟨i0, A, c, hi0, rfl, hle, hA, hcap'⟩, h2, h3⟩
        rw [app_room (P := P) w ts tx ty el i dx hts htx hdx hi (some A) len c n xc cnews hlen (hfirst w rfl) hle]
        rw [hA (by omega)]
        simp only [addr_add, Nat.add_assoc]
        rw [h1]
        rfl
      cases cap with
      | is c' =>
        simp only [CapOk] at hcap
        subst hcap
        change appKnown lo i.size b q len c n news σ = .v v σ' at h
        unfold appKnown at h
        cases hfit : Nat.ble (Nat.add len n) c with
        | true =>
          rw [hfit] at h
          obtain ⟨h1, rfl⟩ := wrote_v h
          exact inplace _ h1 (Nat.le_of_ble_eq_true hfit) _ rfl
        | false =>
          rw [hfit] at h
          have hnf : ¬ len + n ≤ c := fun hh => by
            have h9 : Nat.ble (Nat.add len n) c = true := Nat.ble_eq_true_of_le hh
            rw [h9] at hfit; cases hfit
          change appCopy i.size (len + n) news σ (readN σ b q (len * i.size)) = .v v σ' at h
          cases hrd : readN σ b q (len * i.size) with
          | none => rw [hrd] at h; cases h
          | some old =>
            rw [hrd] at h
            obtain ⟨hf, rfl, rfl⟩ := made_v h
            obtain ⟨colds, h1, h2, h3⟩ := hR.loadSl (P := P) (_cap := .is c) hi0 hlc hA (Nat.le_refl _) hrd
            rw [appN_eq]
            exact grown (some A) len c old colds h1 h2 (by simpa [Builtin.firstCells] using h3 w.drew rfl) (by omega) hroom hf σ hdr xdr rfl [] (fun a ha => by cases ha)
      | un zz =>
        change cond (Nat.beq zz i.size) (appOpen lo i.size b q len n news σ (σ.mem.get b)) .no = .v v σ' at h
        have hzz : Nat.beq zz i.size = true := by
          cases h9 : Nat.beq zz i.size with
          | true => rfl
          | false => rw [h9] at h; cases h
        rw [hzz] at h
        have h8 : appOpen lo i.size b q len n news σ (σ.mem.get b) = .v v σ' := h
        clear h
        have hzz' := Nat.eq_of_beq_eq_true hzz
        subst hzz'
        have h := h8
        simp only [CapOk] at hcap
        cases hb : σ.mem.get b with
        | map es => rw [hb] at h; cases h
        | none => rw [hb] at h; cases h
        | cells cs rw' anc =>
          rw [hb] at h
          change cond (Nat.ble (q + (len + n) * i.size) (lenN cs)) (wrote (.slice b q (len + n) (.un i.size)) (writeN lo σ b (q + len * i.size) news))
            (appMove lo i.size b q (q + len * i.size) (len + n) news σ cs rw' anc) = .v v σ' at h
          rw [lenN_eq] at h
          cases hfit : Nat.ble (q + (len + n) * i.size) cs.length with
          | true =>
            rw [hfit] at h
            obtain ⟨h1, rfl⟩ := wrote_v h
            refine inplace _ h1 ?_ _ hcap
            have hne : news ≠ [] := fun h2 => by
              rw [h2] at hnl
              have : n * i.size = 0 := by simpa using hnl.symm
              rcases Nat.mul_eq_zero.1 this with h3 | h3 <;> omega
            rcases writeN_some h1 with ⟨h2, _⟩ | ⟨cs', anc', h2, h3, _⟩
            · exact absurd h2 hne
            · rw [hb] at h2; cases h2
              have hfit2 := (hR.own b i0 cs anc h3 hi0 hb).fit
              have hfit3 := Nat.le_of_ble_eq_true hfit
              have : (len + n) * i.size ≤ c * i.size := by omega
              exact Nat.le_of_mul_le_mul_right this (by omega)
          | false =>
            rw [hfit] at h
            change cond rw' (cond (cond (Nat.ble lo b) (cellsOk news) false) (cond (Nat.beq (q + len * i.size) (lenN cs))
              (made (.slice σ.next 0 (len + n) (.un i.size)) (.cells (appN (dropN q cs) news) true (b :: anc)) { mem := σ.mem.set b (.cells cs false []), next := σ.next }) .no) .no) .no = .v v σ' at h
            rw [lenN_eq] at h
            obtain ⟨h1, k1⟩ := cond_v h
            obtain ⟨h2, k2⟩ := cond_v k1
            obtain ⟨h3, k3⟩ := cond_v k2
            clear h k1 k2
            subst h1
            obtain ⟨hf, rfl, rfl⟩ := made_v k3
            have hlo : lo ≤ b := by
              cases h4 : Nat.ble lo b with
              | false => rw [h4] at h2; cases h2
              | true => exact Nat.le_of_ble_eq_true h4
            have hok : cellsOk news = true := by
              rw [Nat.ble_eq_true_of_le hlo] at h2; exact h2
            have hend := Nat.eq_of_beq_eq_true h3
            rw [appN_eq, dropN_eq]
            have hrd : readN σ b q (len * i.size) = some (cs.drop q) := by
              unfold readN
              rw [hb]
              show takeN (len * i.size) (dropN q cs) = _
              rw [dropN_eq, takeN_ok _ _ (by simp; omega), List.take_of_length_le (by simp; omega)]
            by_cases hle : len + n ≤ c
            · have hroom2 : cs.length + news.length ≤ i0.capEnd := by
                have h5 : (len + n) * i.size ≤ c * i.size := Nat.mul_le_mul_right _ hle
                rw [Nat.add_mul] at h5
                omega
              obtain ⟨w', g1, g2, g3⟩ := hR.moveIn (P := P) (o := q) hlo hi0 hb (by omega) hnv hok hroom2
              refine ⟨.slice (some A) (len + n) c, _, w', ?_, ?_, g2, g3⟩
              · rw [app_room (P := P) w ts tx ty el i dx hts htx hdx hi (some A) len c n xc cnews hlen (hfirst w rfl) hle]
                rw [hA (by omega)]
                simp only [addr_add]
                rw [show i0.base + q + len * i.size = i0.base + cs.length by omega, g1]
                rfl
              · simp only [VR]
                refine ⟨_, A, c, upd_same _ _ _, rfl, hle, fun h5 => by rw [hA h5]; rfl, ?_⟩
                simp only [CapOk]
                omega
            · obtain ⟨colds, g1, g2, g3⟩ := hR.loadSl (P := P) (_cap := .un i.size) hi0 hlc hA (Nat.le_refl _) hrd
              obtain ⟨d1, d2⟩ := hR.demote hlo hi0 hb
              have ow := hR.own b i0 cs anc hlo hi0 hb
              exact grown (some A) len c (cs.drop q) colds g1 g2 (by simpa [Builtin.firstCells] using g3 w.drew rfl) (by omega) hroom hf _ (d1.heap rfl) (d2.trans (Ext.drew _ _ _ _ _)) rfl (b :: anc)
                (fun a ha => by rcases List.mem_cons.1 ha with rfl | ha; exact ⟨i0, hi0⟩; exact (ow.anc a ha).2)
  · cases h

end

end Go.Vm

/- Maps. -/
namespace Go.Vm
variable [Gl]

omit [Gl] in
theorem andO_some {a b : Option Bool} {r : Bool} (h : andO a b = some r) : ∃ p q, a = some p ∧ b = some q ∧ r = (p && q) := by
  cases a <;> cases b <;> simp [andO] at h
  rename_i p q
  exact ⟨p, q, rfl, rfl, by cases p <;> simp_all⟩

omit [Gl] in
theorem intKey_some {m : Mp} {x y : V} {cx cy : Value} {b : Bool} (h : intKey x y = some b) (hx : VR m x cx) (hy : VR m y cy) : ∃ k p q, cx = .int k p ∧ cy = .int k q ∧ b = (p == q) := by
  unfold intKey at h
  split at h
  · simp only [VR] at hx hy
    rename_i k a k' b'
    cases hk : ikEq k k' with
    | false => rw [hk] at h; cases h
    | true =>
      rw [hk] at h
      have := ikEq_eq hk
      subst this
      have h' : intEq a b' = b := by simpa using h
      exact ⟨k, a, b', hx, hy, by rw [← h', intEq_eq]⟩
  · cases h

omit [Gl] in
theorem strKey_some {m : Mp} {x y : V} {cx cy : Value} {b : Bool} (h : strKey x y = some b) (hx : VR m x cx) (hy : VR m y cy) : ∃ p q, cx = .string p ∧ cy = .string q ∧ b = (p == q) := by
  unfold strKey at h
  split at h
  · simp only [VR] at hx hy
    obtain ⟨p, hx, rfl⟩ := hx
    obtain ⟨q, hy, rfl⟩ := hy
    refine ⟨p, q, hx, hy, ?_⟩
    have h' := Option.some.inj h
    rw [← h', eqB_eq, map_beq]
    obtain ⟨⟨p⟩⟩ := p
    obtain ⟨⟨q⟩⟩ := q
    show (p == q) = ((⟨p⟩ : Array UInt8) == ⟨q⟩)
    simp
  · cases h

omit [Gl] in
theorem boolKey_some {m : Mp} {x y : V} {cx cy : Value} {b : Bool} (h : boolKey x y = some b) (hx : VR m x cx) (hy : VR m y cy) : ∃ p q, cx = .bool p ∧ cy = .bool q ∧ b = (p == q) := by
  unfold boolKey at h
  split at h
  · simp only [VR] at hx hy
    rename_i p q
    refine ⟨p, q, hx, hy, ?_⟩
    have h' := Option.some.inj h
    rw [← h']
    cases p <;> cases q <;> rfl
  · cases h

omit [Gl] in
/-- Rows of integers. -/
theorem intsKey_some {m : Mp} : ∀ {xs ys : List V} {cx cy : List Value} {b : Bool}, intsKey xs ys = some b → VRs m xs cx → VRs m ys cy →
    cx.length = cy.length ∧ (b = true ↔ cx = cy) ∧ ∀ j, j < cx.length → ∃ k p q, cx[j]? = some (.int k p) ∧ cy[j]? = some (.int k q)
  | [], ys, cx, cy, b, h, hx, hy => by
    have := VRs_nil_inv hx
    subst this
    cases ys with
    | nil => cases h; rw [VRs_nil_inv hy]; simp
    | cons y ys => cases h
  | x :: xs, [], _, _, _, h, _, _ => by cases h
  | x :: xs, y :: ys, cx, cy, b, h, hx, hy => by
    obtain ⟨c, cs, rfl, h1, h2⟩ := VRs_cons_inv hx
    obtain ⟨d, ds, rfl, h3, h4⟩ := VRs_cons_inv hy
    have h' : andO (intKey x y) (intsKey xs ys) = some b := h
    obtain ⟨p, q, h5, h6, rfl⟩ := andO_some h'
    obtain ⟨k, i, j, rfl, rfl, rfl⟩ := intKey_some h5 h1 h3
    obtain ⟨h7, h8, h9⟩ := intsKey_some h6 h2 h4
    refine ⟨by simp [h7], ?_, ?_⟩
    · simp only [Bool.and_eq_true, beq_iff_eq, h8, List.cons.injEq, Value.int.injEq, true_and]
    · intro n hn
      cases n with
      | zero => exact ⟨k, i, j, by simp, by simp⟩
      | succ n => simpa using h9 n (by simpa using hn)

omit [Gl] in
theorem run_eqItems_ints {P : Program} (w : World) (d : Nat) {e : TypeId} {kd : IntKind} (he : P.underlying e = some (.int kd)) (xs ys : Array Value) : ∀ (is : List Nat),
    (∀ j ∈ is, ∃ k p q, xs[j]? = some (.int k p) ∧ ys[j]? = some (.int k q)) →
    ∃ r : Bool, (Op.eqItems (d + 1) e 1 xs ys is).run P w = .ok r w ∧ (r = true ↔ ∀ j ∈ is, xs[j]? = ys[j]?)
  | [], _ => ⟨true, by simp [Op.eqItems], by simp⟩
  | j :: is, h => by
    obtain ⟨k, p, q, h1, h2⟩ := h j (by simp)
    have hp : P.plainKey e = true := by simp [Program.plainKey, he]
    have p1 := run_part_plain (P := P) w hp (xs := xs) (off := j * 1) (v := .int k p) (by simpa using h1)
    have p2 := run_part_plain (P := P) w hp (xs := ys) (off := j * 1) (v := .int k q) (by simpa using h2)
    have p3 := run_equalIn_int (P := P) w d e k kd p q he
    obtain ⟨r, ih1, ih2⟩ := run_eqItems_ints w d he xs ys is (fun i hi => h i (by simp [hi]))
    simp only [Op.eqItems, Sem.run_bind, p1, p2, p3, Result.andThen_ok, List.mem_cons, forall_eq_or_imp, h1, h2, Option.some.injEq, Value.int.injEq, true_and]
    by_cases hpq : p = q
    · subst hpq
      exact ⟨r, by simpa using ih1, by simp [ih2]⟩
    · have : (p == q) = false := by simp [hpq]
      exact ⟨false, by simp [this], by simp [hpq]⟩

/-- What two keys that are compared are to the model. -/
structure KeyR (P : Program) (kt : TypeId) (kk : Nat) (cx cy : Value) (b : Bool) : Prop where
  same : b = true → cx = cy
  now : ∃ d, P.underlying kt = some d ∧ ((kk ≤ 2 ∧ Instr.sameNow d cx cy = some b) ∨ (3 ≤ kk ∧ Instr.sameNow d cx cy = none ∧ ∀ w, (Op.equal kt cx cy).run P w = .ok b w))

omit [Gl] in
theorem keyEq_some {P : Program} {m : Mp} {kt : TypeId} {kk : Nat} {x y : V} {cx cy : Value} {b : Bool} (hk : keyK P kt = some kk) (h : keyEq kk x y = some b) (hx : VR m x cx) (hy : VR m y cy) : KeyR P kt kk cx cy b := by
  unfold keyK at hk
  split at hk
  · rename_i q hd
    cases hk
    obtain ⟨k, i, j, rfl, rfl, rfl⟩ := intKey_some (h : intKey x y = some b) hx hy
    exact ⟨by simp, _, hd, .inl ⟨by omega, by simp [Instr.sameNow]⟩⟩
  · rename_i hd
    cases hk
    obtain ⟨i, j, rfl, rfl, rfl⟩ := strKey_some (h : strKey x y = some b) hx hy
    exact ⟨fun hb => by rw [(MapKept.bytes_beq i j).1 hb], _, hd, .inl ⟨by omega, by simp [Instr.sameNow]⟩⟩
  · rename_i hd
    cases hk
    obtain ⟨i, j, rfl, rfl, rfl⟩ := boolKey_some (h : boolKey x y = some b) hx hy
    exact ⟨by simp, _, hd, .inl ⟨by omega, by simp [Instr.sameNow]⟩⟩
  · rename_i n e hd
    split at hk
    · rename_i q ti he hi
      split at hk
      · rename_i hsz
        cases hk
        have h' : arrKey n x y = some b := h
        unfold arrKey at h'
        split at h'
        · rename_i xs ys
          cases hn : Nat.beq (lenN xs) n with
          | false => rw [hn] at h'; cases h'
          | true =>
            rw [hn] at h'
            simp only [VR] at hx hy
            obtain ⟨A, rfl, hx⟩ := hx
            obtain ⟨B, rfl, hy⟩ := hy
            obtain ⟨h1, h2, h3⟩ := intsKey_some (h' : intsKey xs ys = some b) hx hy
            have hl := VRs_length hx
            have hn' := Nat.eq_of_beq_eq_true hn
            rw [lenN_eq] at hn'
            refine ⟨fun hb => by rw [show A = B from Array.ext' (h2.1 hb)], _, hd, .inr ⟨by omega, by simp [Instr.sameNow], fun w => ?_⟩⟩
            have hA : A.size = n := by rw [← Array.length_toList]; omega
            have hc : P.cellsOf e = 1 := by simp [Program.cellsOf, hi, hsz]
            obtain ⟨r, g1, g2⟩ := run_eqItems_ints w 9998 he A B (List.range n) (fun j hj => by
              obtain ⟨k, p, q, g1, g2⟩ := h3 j (by simp at hj; simp; omega)
              exact ⟨k, p, q, by simpa using g1, by simpa using g2⟩)
            have hr : r = b := by
              have : r = true ↔ b = true := by
                rw [g2, h2]
                constructor
                · intro hall
                  apply List.ext_getElem?
                  intro j
                  by_cases hj : j < n
                  · simpa using hall j (by simpa using hj)
                  · rw [List.getElem?_eq_none (by simp; omega), List.getElem?_eq_none (by simp at h1; simp; omega)]
                · intro heq j _
                  have := congrArg (fun l => l[j]?) heq
                  simpa using this
              cases r <;> cases b <;> simp_all
            unfold Op.equal Op.maxDepth
            rw [run_equalIn_array w 9999 A B hd hi, hc, g1, hr]
        · cases h'
      · cases hk
    · cases hk
  · cases hk

omit [Gl] in
theorem isOk_true {o : Option Bool} (h : isOk o = true) : o = some true := by
  unfold isOk at h
  split at h
  · rfl
  · cases h

omit [Gl] in
theorem sameBits_ints (n : Nat) : ∀ (l : List Value), (∀ v ∈ l, ∃ k p, v = .int k p) → (l.zip l).all (fun (x : Value × Value) => Instr.sameBits (n + 1) x.1 x.2) = true
  | [], _ => rfl
  | v :: l, h => by
    obtain ⟨k, p, rfl⟩ := h v (by simp)
    have := sameBits_ints n l (fun x hx => h x (by simp [hx]))
    simp only [List.zip_cons_cons, List.all_cons, this, Bool.and_true]
    simp [Instr.sameBits]

omit [Gl] in
theorem keyFits_some {P : Program} {m : Mp} {kt : TypeId} {kk : Nat} {x : V} {cx : Value} (hk : keyK P kt = some kk) (h : keyFits kk x = true) (hx : VR m x cx) :
    (∀ e w, (Instr.checkKey e 10000 kt cx).run P w = .ok () w) ∧ ∀ w, (Instr.keyThatStays cx cx).run P w = .ok cx w := by
  have h0 := isOk_true h
  have hst : Instr.sameBits 10000 cx cx = true → ∀ w, (Instr.keyThatStays cx cx).run P w = .ok cx w := fun hs w => by
    unfold Instr.keyThatStays
    rw [hs]; rfl
  unfold keyK at hk
  split at hk
  · rename_i q hd
    cases hk
    obtain ⟨k, i, j, rfl, h1, _⟩ := intKey_some (h0 : intKey x x = some true) hx hx
    refine ⟨fun e w => ?_, hst (by unfold Instr.sameBits; simp)⟩
    rw [show (10000 : Nat) = 9999 + 1 from rfl, Instr.checkKey]
    simp only [Sem.run_bind, run_underlying hd, Result.andThen_ok]
    rfl
  · rename_i hd
    cases hk
    obtain ⟨i, j, rfl, h1, _⟩ := strKey_some (h0 : strKey x x = some true) hx hx
    exact ⟨fun e w => MapKept.run_checkKey hd (by simp [MapKept.IsKey]) e 9999, hst (by unfold Instr.sameBits; exact (MapKept.bytes_beq i i).2 rfl)⟩
  · rename_i hd
    cases hk
    obtain ⟨i, j, rfl, h1, _⟩ := boolKey_some (h0 : boolKey x x = some true) hx hx
    exact ⟨fun e w => MapKept.run_checkKey hd (by simp [MapKept.IsKey]) e 9999, hst (by unfold Instr.sameBits; simp)⟩
  · rename_i n e hd
    split at hk
    · rename_i q ti he hi
      split at hk
      · rename_i hsz
        cases hk
        have h' : arrKey n x x = some true := h0
        cases x with
        | agg xs =>
          change cond (Nat.beq (lenN xs) n) (intsKey xs xs) none = some true at h'
          cases hn : Nat.beq (lenN xs) n with
          | false => rw [hn] at h'; cases h'
          | true =>
            rw [hn] at h'
            simp only [VR] at hx
            obtain ⟨A, rfl, hx⟩ := hx
            obtain ⟨_, _, h3⟩ := intsKey_some (h' : intsKey xs xs = some true) hx hx
            have hl := VRs_length hx
            have hn' := Nat.eq_of_beq_eq_true hn
            rw [lenN_eq] at hn'
            have hp : P.plainKey e = true := by simp [Program.plainKey, he]
            have hc : P.cellsOf e = 1 := by simp [Program.cellsOf, hi, hsz]
            constructor
            · intro em w
              rw [show (10000 : Nat) = 9999 + 1 from rfl, Instr.checkKey]
              simp only [Sem.run_bind, run_underlying hd, Result.andThen_ok]
              simp only [Std.Legacy.Range.forIn_eq_forIn_range', Std.Legacy.Range.size, Nat.sub_zero, Nat.add_one_sub_one, Nat.div_one]
              have each : ∀ j ∈ List.range' 0 n, ∃ k p, A[j]? = some (.int k p) := fun j hj => by
                obtain ⟨k, p, q, g1, _⟩ := h3 j (by simp at hj; simp at hl; simp; omega)
                exact ⟨k, p, by simpa using g1⟩
              generalize List.range' 0 n = is at each
              induction is with
              | nil => simp
              | cons j is ih =>
                obtain ⟨k, p, g1⟩ := each j (by simp)
                have p1 := run_part_plain (P := P) w hp (xs := A) (off := j * 1) (v := .int k p) (by simpa using g1)
                have p2 : (Instr.checkKey em 9999 e (.int k p)).run P w = .ok () w := by
                  rw [show (9999 : Nat) = 9998 + 1 from rfl, Instr.checkKey]
                  simp only [Sem.run_bind, run_underlying he, Result.andThen_ok]
                  rfl
                simp only [List.forIn_cons, Sem.run_bind, _root_.Go.run_sizeOf w hi, hc, Result.andThen_ok, p1, p2, Sem.run_pure]
                exact ih (fun y hy => each y (by simp [hy]))
            · apply hst
              rw [show (10000 : Nat) = 9998 + 1 + 1 from rfl, Instr.sameBits]
              simp only [beq_self_eq_true, Bool.true_and]
              apply sameBits_ints
              intro v hv
              obtain ⟨j, hj⟩ := List.mem_iff_getElem?.1 hv
              have hlt := (List.getElem?_eq_some_iff.1 hj).1
              obtain ⟨k, p, q, g1, _⟩ := h3 j hlt
              rw [hj] at g1
              cases g1
              exact ⟨k, p, rfl⟩
        | _ => cases h'
      · cases hk
    · cases hk
  · cases hk

omit [Gl] in
theorem setK_cons (kk : Nat) (k v : V) (x : V × V) (es : List (V × V)) : setK kk k v (x :: es) = (match keyEq kk k x.1 with | some true => some ((k, v) :: es) | some false => consE x (setK kk k v es) | none => none) := rfl

omit [Gl] in
theorem consE_some {x : V × V} {q : Option (List (V × V))} {l : List (V × V)} (h : consE x q = some l) : ∃ r, q = some r ∧ l = x :: r := by
  cases q with
  | none => cases h
  | some r => cases h; exact ⟨r, rfl, rfl⟩

omit [Gl] in
theorem setK_find {kk : Nat} {k v : V} : ∀ {es es' : List (V × V)}, setK kk k v es = some es' → ∃ r, findK kk k es = some r
  | [], _, _ => ⟨none, rfl⟩
  | x :: es, es', h => by
    rw [setK_cons] at h
    show ∃ r, (match keyEq kk k x.1 with | some true => some (some x.2) | some false => findK kk k es | none => none) = some r
    cases hb : keyEq kk k x.1 with
    | none => rw [hb] at h; cases h
    | some b =>
      cases b with
      | true => exact ⟨_, rfl⟩
      | false =>
        rw [hb] at h
        obtain ⟨r, h1, _⟩ := consE_some h
        exact setK_find h1

omit [Gl] in
/-- What is found: nothing; or the entry at j. -/
theorem findNow_R {P : Program} {m : Mp} {kt : TypeId} {d : TypeDesc} (hd : P.underlying kt = some d) {kk : Nat} {k : V} {ck : Value} (hk : keyK P kt = some kk) (h2 : kk ≤ 2) (hx : VR m k ck) :
    ∀ (es : List (V × V)) (ces : List MapEntry) (r : Option V) (i : Nat), findK kk k es = some r → MapR m es ces →
    (r = none ∧ Instr.findNow d ck ces i = some none ∧ ∀ u, setK kk k u es = some (es ++ [(k, u)])) ∨
    ∃ v j e, r = some v ∧ Instr.findNow d ck ces i = some (some (i + j, e.val)) ∧ ces[j]? = some e ∧ e.key = ck ∧ VR m v e.val ∧ ∀ u, setK kk k u es = some (es.set j (k, u))
  | [], ces, r, i, h, hm => by
    have : ces = [] := List.eq_nil_of_length_eq_zero hm.1.symm
    subst this
    cases h
    exact .inl ⟨rfl, rfl, fun _ => rfl⟩
  | (x, v) :: es, ces, r, i, h, hm => by
    obtain ⟨e, h3, h4, h5⟩ := hm.2 0 x v rfl
    cases ces with
    | nil => cases h3
    | cons c ces =>
      cases h3
      have hm' : MapR m es ces := ⟨by simpa using hm.1, fun j a b hj => by simpa using hm.2 (j + 1) a b (by simpa using hj)⟩
      change (match keyEq kk k x with | some true => some (some v) | some false => findK kk k es | none => none) = some r at h
      cases hb : keyEq kk k x with
      | none => rw [hb] at h; cases h
      | some b =>
        rw [hb] at h
        obtain ⟨g1, d', g2, g3⟩ := keyEq_some (P := P) hk hb hx h4
        rw [hd] at g2; cases g2
        rcases g3 with ⟨_, g3⟩ | ⟨g3, _⟩
        · cases b with
          | true =>
            cases h
            exact .inr ⟨v, 0, e, rfl, by simp [Instr.findNow, g3], rfl, (g1 rfl).symm, h5, fun u => by rw [setK_cons, hb]; rfl⟩
          | false =>
            rcases findNow_R hd hk h2 hx es ces r (i + 1) h hm' with ⟨q1, q2, q6⟩ | ⟨u, j, e, q1, q2, q3, q4, q5, q6⟩
            · exact .inl ⟨q1, by simp [Instr.findNow, g3, q2], fun u => by rw [setK_cons, hb, q6]; rfl⟩
            · exact .inr ⟨u, j + 1, e, q1, by simp only [Instr.findNow, g3, q2]; congr 3; omega, by simpa using q3, q4, q5, fun u => by rw [setK_cons, hb, q6]; rfl⟩
        · omega

omit [Gl] in
theorem findAsking_R {P : Program} {m : Mp} {kt : TypeId} {kk : Nat} {k : V} {ck : Value} (hk : keyK P kt = some kk) (h2 : 3 ≤ kk) (hx : VR m k ck) (w : World) :
    ∀ (es : List (V × V)) (ces : List MapEntry) (r : Option V) (i : Nat), findK kk k es = some r → MapR m es ces →
    (r = none ∧ (Instr.findAsking kt ck ces i).run P w = .ok none w ∧ ∀ u, setK kk k u es = some (es ++ [(k, u)])) ∨
    ∃ v j e, r = some v ∧ (Instr.findAsking kt ck ces i).run P w = .ok (some (i + j, e.val)) w ∧ ces[j]? = some e ∧ e.key = ck ∧ VR m v e.val ∧ ∀ u, setK kk k u es = some (es.set j (k, u))
  | [], ces, r, i, h, hm => by
    have : ces = [] := List.eq_nil_of_length_eq_zero hm.1.symm
    subst this
    cases h
    exact .inl ⟨rfl, rfl, fun _ => rfl⟩
  | (x, v) :: es, ces, r, i, h, hm => by
    obtain ⟨e, h3, h4, h5⟩ := hm.2 0 x v rfl
    cases ces with
    | nil => cases h3
    | cons c ces =>
      cases h3
      have hm' : MapR m es ces := ⟨by simpa using hm.1, fun j a b hj => by simpa using hm.2 (j + 1) a b (by simpa using hj)⟩
      change (match keyEq kk k x with | some true => some (some v) | some false => findK kk k es | none => none) = some r at h
      cases hb : keyEq kk k x with
      | none => rw [hb] at h; cases h
      | some b =>
        rw [hb] at h
        obtain ⟨g1, d', g2, g3⟩ := keyEq_some (P := P) hk hb hx h4
        rcases g3 with ⟨g3, _⟩ | ⟨_, _, g3⟩
        · omega
        · cases b with
          | true =>
            cases h
            exact .inr ⟨v, 0, e, rfl, by simp [Instr.findAsking, g3], rfl, (g1 rfl).symm, h5, fun u => by rw [setK_cons, hb]; rfl⟩
          | false =>
            rcases findAsking_R hk h2 hx w es ces r (i + 1) h hm' with ⟨q1, q2, q6⟩ | ⟨u, j, e, q1, q2, q3, q4, q5, q6⟩
            · exact .inl ⟨q1, by simp [Instr.findAsking, g3, q2], fun u => by rw [setK_cons, hb, q6]; rfl⟩
            · exact .inr ⟨u, j + 1, e, q1, by simp only [Instr.findAsking, Sem.run_bind, g3, Result.andThen_ok, Bool.false_eq_true, if_false, q2]; congr 3; omega, by simpa using q3, q4, q5, fun u => by rw [setK_cons, hb, q6]; rfl⟩

omit [Gl] in
theorem findKey_R {P : Program} {m : Mp} {kt : TypeId} {kk : Nat} {k : V} {ck : Value} (hk : keyK P kt = some kk) (hx : VR m k ck) (w : World)
    {es : List (V × V)} {ces : List MapEntry} {r : Option V} (h : findK kk k es = some r) (hm : MapR m es ces) :
    (r = none ∧ (Instr.findKey kt ck ces).run P w = .ok none w ∧ ∀ u, setK kk k u es = some (es ++ [(k, u)])) ∨
    ∃ v j e, r = some v ∧ (Instr.findKey kt ck ces).run P w = .ok (some (j, e.val)) w ∧ ces[j]? = some e ∧ e.key = ck ∧ VR m v e.val ∧ ∀ u, setK kk k u es = some (es.set j (k, u)) := by
  have hud : ∃ d, P.underlying kt = some d := by
    unfold keyK at hk
    cases hu : P.underlying kt with
    | none => rw [hu] at hk; cases hk
    | some d => exact ⟨d, rfl⟩
  obtain ⟨d, hd⟩ := hud
  by_cases h2 : kk ≤ 2
  · rcases findNow_R hd hk h2 hx es ces r 0 h hm with ⟨q1, q2, q6⟩ | ⟨u, j, e, q1, q2, q3, q4, q5, q6⟩
    · exact .inl ⟨q1, MapKept.run_findKey hd q2, q6⟩
    · exact .inr ⟨u, j, e, q1, by rw [MapKept.run_findKey hd q2]; simp, q3, q4, q5, q6⟩
  · cases es with
    | nil =>
      have : ces = [] := List.eq_nil_of_length_eq_zero hm.1.symm
      subst this
      cases h
      exact .inl ⟨rfl, by simp [Instr.findKey, run_underlying hd, Instr.findNow], fun _ => rfl⟩
    | cons x es =>
      obtain ⟨x, v⟩ := x
      have hnow : Instr.findNow d ck ces 0 = none := by
        obtain ⟨e, h3, h4, h5⟩ := hm.2 0 x v rfl
        cases ces with
        | nil => cases h3
        | cons c ces =>
          cases h3
          change (match keyEq kk k x with | some true => some (some v) | some false => findK kk k es | none => none) = some r at h
          cases hb : keyEq kk k x with
          | none => rw [hb] at h; cases h
          | some b =>
            obtain ⟨g1, d', g2, g3⟩ := keyEq_some (P := P) hk hb hx h4
            rw [hd] at g2; cases g2
            rcases g3 with ⟨g3, _⟩ | ⟨_, g3, _⟩
            · omega
            · simp [Instr.findNow, g3]
      have hrun : (Instr.findKey kt ck ces).run P w = (Instr.findAsking kt ck ces 0).run P w := by simp [Instr.findKey, run_underlying hd, hnow]
      rw [hrun]
      rcases findAsking_R hk (by omega) hx w _ ces r 0 h hm with ⟨q1, q2, q6⟩ | ⟨u, j, e, q1, q2, q3, q4, q5, q6⟩
      · exact .inl ⟨q1, q2, q6⟩
      · exact .inr ⟨u, j, e, q1, by simpa using q2, q3, q4, q5, q6⟩

section
variable {P : Program} {o : Oper} {a : Act} {e : E} {lo : Nat} {m : Mp} {σ σ' : St} {w : World} {v : V} {ev : Ev}

theorem s_mkmap {t : TypeId} (ho : o.op = .makeMap t none) (hR : Rel lo m σ w) (h : oMkmap ev lo e σ = .v v σ') : VSim P o a lo m σ w v σ' := by
  obtain ⟨hf, rfl, rfl⟩ := made_v h
  obtain ⟨g1, g2⟩ := hR.alloc (.map #[] 0) (.map []) ⟨w.heap.size, 0, 0⟩ rfl (fun _ _ _ hb => by cases hb)
    (fun es hb => by cases hb; exact ⟨#[], 0, rfl, rfl, fun j k v hj => by cases hj⟩) (fun _ _ hb => by cases hb)
  refine ⟨.map (some w.heap.size), _, _, .inl ?_, ?_, g1, g2⟩
  · simp only [execOp, ho]
    rfl
  · simp only [VR]
    exact ⟨_, upd_same _ _ _, rfl⟩

omit [Gl] in
theorem foundV_some {zero : V} {ok : Bool} {x : Option (Option V)} (h : foundV zero ok x = some v) : ∃ r : Option V, x = some r ∧
    v = (match r with | some u => cond ok (.tuple [u, .bool true]) u | none => cond ok (.tuple [zero, .bool false]) zero) := by
  unfold foundV at h
  split at h <;> first | (cases h; exact ⟨_, rfl, rfl⟩) | cases h

theorem s_lookup {t kt el : TypeId} {kk : Nat} {ti : TypeInfo} {z : Value} {zero : V} {ok : Bool} {x y : Operand} {x' y' : Opd} (ho : o.op = .lookup t x y ok) (ht : P.underlying t = some (.map kt el))
    (hi : P.info? el = some ti) (hz : ti.zero = some z) (hk : keyK P kt = some kk) (hc : cVal 9 z = some zero) (hx : cOpd x = some x') (hy : cOpd y = some y') (hE : ER m e a) (hR : Rel lo m σ w)
    (h : oLookup kk zero ok x' y' ev lo e σ = .v v σ') : VSim P o a lo m σ w v σ' := by
  have hxv := opd_VR hR.pins hE hx
  have hyv := opd_VR hR.pins hE hy
  obtain ⟨h1, rfl⟩ := val_v h
  obtain ⟨r, h2, rfl⟩ := foundV_some h1
  unfold lookupV at h2
  rcases cond_some h2 with ⟨hf, h2⟩ | ⟨_, h2⟩
  case inr => cases h2
  obtain ⟨hck, _⟩ := keyFits_some (P := P) hk hf hyv
  have hzr : VR m zero z := cVal_VR m 9 z zero hc
  have hzv : ∀ w, (zeroValue el).run P w = .ok z w := fun w => by simp [zeroValue, typeInfo, hi, hz]
  split at h2
  · rename_i hb
    cases h2
    rw [hb] at hxv
    simp only [VR] at hxv
    refine VSim.same hR (cv := cond ok (.tuple #[z, .bool false]) z) ?_ ?_
    · simp only [execOp, ho, hxv]
      have hfk : (Instr.findKey kt (a.eval y) []).run P w = .ok none w := by
        rcases findKey_R (P := P) (es := []) (ces := []) (r := none) hk hyv w rfl ⟨rfl, fun j k v hj => by cases hj⟩ with ⟨_, q, _⟩ | ⟨_, _, _, q, _⟩
        · exact q
        · cases q
      simp only [Instr.lookup, Sem.run_bind, run_underlying ht, Result.andThen_ok, Sem.run_pure, hck, hfk, hzv]
      cases ok <;> rfl
    · cases ok
      · exact hzr
      · simp only [cond_true, VR]
        exact ⟨_, rfl, VRs_cons hzr (VRs_cons (by simp [VR]) (VRs_nil m))⟩
  · rename_i q hb
    rw [hb] at hxv
    simp only [VR] at hxv
    obtain ⟨i, hi', hxv⟩ := hxv
    cases hm : mapOf (σ'.mem.get q) with
    | none => rw [hm] at h2; cases h2
    | some es =>
      rw [hm] at h2
      obtain ⟨ces, clock, h4, h5⟩ := hR.mp q i es hi' (mapOf_some hm)
      have hg := MapKept.run_getObj_map (P := P) h4
      rcases findKey_R (P := P) hk hyv w (h2 : findK kk (opd y' e) es = some r) h5 with ⟨rfl, q2, _⟩ | ⟨u, j, en, rfl, q2, q3, q4, q5, _⟩
      · refine VSim.same hR (cv := cond ok (.tuple #[z, .bool false]) z) ?_ ?_
        · simp only [execOp, ho, hxv]
          simp only [Instr.lookup, Sem.run_bind, run_underlying ht, Result.andThen_ok, hg, Sem.run_pure, hck, q2, hzv]
          cases ok <;> rfl
        · cases ok
          · exact hzr
          · simp only [cond_true, VR]
            exact ⟨_, rfl, VRs_cons hzr (VRs_cons (by simp [VR]) (VRs_nil m))⟩
      · refine VSim.same hR (cv := cond ok (.tuple #[en.val, .bool true]) en.val) ?_ ?_
        · simp only [execOp, ho, hxv]
          simp only [Instr.lookup, Sem.run_bind, run_underlying ht, Result.andThen_ok, hg, Sem.run_pure, hck, q2]
          cases ok <;> rfl
        · cases ok
          · exact q5
          · simp only [cond_true, VR]
            exact ⟨_, rfl, VRs_cons q5 (VRs_cons (by simp [VR]) (VRs_nil m))⟩
  · cases h2

omit [Gl] in
theorem MapR.push {m : Mp} {es : List (V × V)} {ces : List MapEntry} (h : MapR m es ces) {k v : V} {e : MapEntry} (hk : VR m k e.key) (hv : VR m v e.val) : MapR m (es ++ [(k, v)]) (ces ++ [e]) := by
  refine ⟨by simp [h.1], fun j a b hj => ?_⟩
  by_cases hlt : j < es.length
  · rw [List.getElem?_append_left hlt] at hj
    obtain ⟨e', h1, h2⟩ := h.2 j a b hj
    exact ⟨e', by rw [List.getElem?_append_left (by have := h.1; omega)]; exact h1, h2⟩
  · have h1 := (List.getElem?_eq_some_iff.1 hj).1
    simp at h1
    have hj' : j = es.length := by omega
    subst hj'
    simp at hj
    obtain ⟨rfl, rfl⟩ := hj
    exact ⟨e, by rw [h.1]; simp, hk, hv⟩

omit [Gl] in
theorem MapR.set {m : Mp} {es : List (V × V)} {ces : List MapEntry} (h : MapR m es ces) {k v : V} {j : Nat} {f : MapEntry → MapEntry} (hk : ∀ e, VR m k (f e).key) (hv : ∀ e, VR m v (f e).val) :
    MapR m (es.set j (k, v)) (ces.modify j f) := by
  refine ⟨by simp [h.1], fun i a b hi => ?_⟩
  rw [List.getElem?_set] at hi
  by_cases hij : j = i
  · subst hij
    rw [if_pos rfl] at hi
    split at hi
    · rename_i hlt
      cases hi
      have hlt' : j < ces.length := by have := h.1; omega
      refine ⟨f ces[j], ?_, hk _, hv _⟩
      rw [List.getElem?_modify]
      simp [hlt']
    · cases hi
  · rw [if_neg hij] at hi
    obtain ⟨e', h1, h2⟩ := h.2 i a b hi
    refine ⟨e', ?_, h2⟩
    rw [List.getElem?_modify]
    simp [hij, h1]

/-- A map is written. -/
theorem Rel.writeMap {lo : Nat} {m : Mp} {σ : St} {w : World} (h : Rel lo m σ w) {r : Nat} {i : Info} {es es' : List (V × V)} (hlo : lo ≤ r) (hi : m r = some i) (hr : σ.mem.get r = .map es)
    {ces' : Array MapEntry} {clock' : Nat} (hm : MapR m es' ces'.toList) :
    Rel lo m { mem := σ.mem.set r (.map es'), next := σ.next } { w with heap := w.heap.setIfInBounds i.blk (.map ces' clock') } ∧
      Ext lo m σ w m { mem := σ.mem.set r (.map es'), next := σ.next } { w with heap := w.heap.setIfInBounds i.blk (.map ces' clock') } := by
  have hd := h.dom r i hi
  obtain ⟨ces, clock, hb, _⟩ := h.mp r i es hi hr
  obtain ⟨s1, s2⟩ := MapKept.heap_set (o' := .map ces' clock') hb
  have hget : ∀ id, id < σ.next → (σ.mem.set r (.map es')).get id = if id = r then .map es' else σ.mem.get id := by
    intro id hid
    by_cases e : id = r
    · subst e; simp [M.get_set]
    · rw [M.get_set_ne _ _ e, if_neg e]
  have hapart : ∀ id j, m id = some j → id ≠ r → σ.mem.get id ≠ .none → j.blk ≠ i.blk := fun id j hj hne hg e => hne (h.ownm r i es hlo hi hr id j hj e hg)
  have hcell : ∀ k j, k ≠ i.blk → ({ w with heap := w.heap.setIfInBounds i.blk (.map ces' clock') } : World).cell? ⟨k, j, none⟩ = w.cell? ⟨k, j, none⟩ := fun k j hk => World.cell?_of_block (a := ⟨k, j, none⟩) (s2 k hk)
  refine ⟨⟨h.pins, fun id j hj => by simpa using h.dom id j hj, ?_, ?_, ?_, ?_⟩, ⟨Le.refl m, fun _ _ hx => hx, Nat.le_refl _, ?_, by simp, ?_, ?_, fun _ _ h1 h2 => (none_some h2 h1).elim, fun cb c e hc => ⟨c, by rw [show ({ w with heap := w.heap.setIfInBounds i.blk (.map ces' clock') } : World).heap[cb]? = w.heap[cb]? from s2 cb (fun he => by subst he; rw [hb] at hc; cases hc)]; exact hc, rfl⟩, rfl, rfl, rfl⟩⟩
  · intro id j cs rw' anc hj hg k v hv
    rw [hget id (h.dom id j hj).1] at hg
    by_cases e : id = r
    · rw [if_pos e] at hg; cases hg
    · rw [if_neg e] at hg
      rw [hcell _ _ (hapart id j hj e (by rw [hg]; exact fun x => by cases x))]
      exact h.cell id j cs rw' anc hj hg k v hv
  · intro id j es2 hj hg
    rw [hget id (h.dom id j hj).1] at hg
    by_cases e : id = r
    · subst e
      rw [if_pos rfl] at hg; cases hg
      rw [hi] at hj; cases hj
      exact ⟨ces', clock', s1, hm⟩
    · rw [if_neg e] at hg
      obtain ⟨c2, k2, h1, h2⟩ := h.mp id j es2 hj hg
      exact ⟨c2, k2, by rw [s2 _ (hapart id j hj e (by rw [hg]; exact fun x => by cases x))]; exact h1, h2⟩
  · intro id j cs anc hl hj hg
    rw [hget id (h.dom id j hj).1] at hg
    by_cases e : id = r
    · rw [if_pos e] at hg; cases hg
    · rw [if_neg e] at hg
      have ow := h.own id j cs anc hl hj hg
      refine ⟨ow.fit, ?_, ?_, ow.anc⟩
      · obtain ⟨c, el, h1, h2⟩ := ow.row
        exact ⟨c, el, by rw [s2 _ (hapart id j hj e (by rw [hg]; exact fun x => by cases x))]; exact h1, h2⟩
      · intro id' i' hi' hb' hne
        rw [hget id' (h.dom id' i' hi').1] at hne ⊢
        by_cases e' : id' = r
        · subst e'
          rw [hi] at hi'; cases hi'
          exact absurd hb'.symm (hapart id j hj e (by rw [hg]; exact fun x => by cases x))
        · rw [if_neg e'] at hne ⊢
          exact ow.only id' i' hi' hb' hne
  · intro id j es2 hl hj hg id' i' hi' hb' hne
    rw [hget id (h.dom id j hj).1] at hg
    rw [hget id' (h.dom id' i' hi').1] at hne
    by_cases e : id = r
    · subst e
      rw [hi] at hj; cases hj
      by_cases e' : id' = id
      · exact e'
      · rw [if_neg e'] at hne
        exact h.ownm id i es hlo hi hr id' i' hi' hb' hne
    · rw [if_neg e] at hg
      by_cases e' : id' = r
      · subst e'
        rw [hi] at hi'; cases hi'
        exact absurd hb'.symm (hapart id j hj e (by rw [hg]; exact fun x => by cases x))
      · rw [if_neg e'] at hne
        exact h.ownm id j es2 hl hj hg id' i' hi' hb' hne
  · intro id hid hor
    show (σ.mem.set r (.map es')).get id = _
    rw [hget id hid]
    by_cases e : id = r
    · subst e
      rcases hor with hor | hor
      · omega
      · rw [hi] at hor; cases hor
    · rw [if_neg e]
  · intro cb hcb hno
    by_cases e : cb = i.blk
    · subst e
      exact absurd ⟨r, i, hlo, hi, rfl, .inr ⟨es, hr⟩⟩ hno
    · exact s2 cb e
  · intro cb hcb ⟨id, k, hl, hk, hb', hor⟩
    change ((∃ cs anc, (σ.mem.set r (.map es')).get id = _) ∨ ∃ es, (σ.mem.set r (.map es')).get id = _) at hor
    rw [hget id (h.dom id k hk).1] at hor
    by_cases e : id = r
    · subst e
      exact ⟨id, k, hl, hk, hb', .inr ⟨es, hr⟩⟩
    · rw [if_neg e] at hor
      exact ⟨id, k, hl, hk, hb', hor⟩

theorem s_mapset {t kt el : TypeId} {kk : Nat} {x y z : Operand} {x' y' z' : Opd} (ho : o.op = .mapUpdate t x y z ∨ o.op = .insert t x y z) (ht : P.underlying t = some (.map kt el))
    (hk : keyK P kt = some kk) (hx : cOpd x = some x') (hy : cOpd y = some y') (hz : cOpd z = some z') (hE : ER m e a) (hR : Rel lo m σ w)
    (h : oMapset kk x' y' z' ev lo e σ = .v v σ') : VSim P o a lo m σ w v σ' := by
  have hxv := opd_VR hR.pins hE hx
  have hyv := opd_VR hR.pins hE hy
  have hzv := opd_VR hR.pins hE hz
  have h' : mapsetV kk lo σ (opd y' e) (opd z' e) (opd x' e) = .v v σ' := h
  unfold mapsetV at h'
  split at h'
  · rename_i r hb
    obtain ⟨hf, h'⟩ := cond_v h'
    obtain ⟨h1, rfl⟩ := wrote_v h'
    obtain ⟨hck, hst⟩ := keyFits_some (P := P) hk hf hyv
    rw [hb] at hxv
    simp only [VR] at hxv
    obtain ⟨i, hi, hxv⟩ := hxv
    cases hm : mapOf (σ.mem.get r) with
    | none => rw [hm] at h1; cases h1
    | some es =>
      rw [hm] at h1
      change putM lo r σ (setK kk (opd y' e) (opd z' e) es) = some σ' at h1
      cases hs : setK kk (opd y' e) (opd z' e) es with
      | none => rw [hs] at h1; cases h1
      | some es' =>
        rw [hs] at h1
        have h2 : cond (Nat.ble lo r) (some ({ mem := σ.mem.set r (.map es'), next := σ.next } : St)) none = some σ' := h1
        rcases cond_some h2 with ⟨hlo, h3⟩ | ⟨_, h3⟩
        case inr => cases h3
        cases h3
        have hlo' := Nat.le_of_ble_eq_true hlo
        have hr := mapOf_some hm
        obtain ⟨ces, clock, h4, h5⟩ := hR.mp r i es hi hr
        have hg := MapKept.run_getObj_map (P := P) h4
        obtain ⟨q, hq⟩ := setK_find hs
        have key : ∀ w', (Instr.mapUpdate t (.map (some i.blk)) (a.eval y) (a.eval z)).run P w = .ok () w' → (execOp a.eval o).run P w = .ok .skip w' := by
          intro w' hw
          rcases ho with ho | ho <;> simp [execOp, ho, hxv, hw]
        have hsz : es.length = ces.toList.length := h5.1
        rcases findKey_R (P := P) hk hyv w hq h5 with ⟨rfl, q2, q6⟩ | ⟨u, j, en, rfl, q2, q3, q4, q5, q6⟩
        · rw [q6] at hs
          cases hs
          have hm' : MapR m (es ++ [(opd y' e, opd z' e)]) (ces.push { key := a.eval y, val := a.eval z, born := clock }).toList := by
            rw [Array.toList_push]
            exact h5.push hyv hzv
          obtain ⟨g1, g2⟩ := hR.writeMap hlo' hi hr (clock' := clock + 1) hm'
          refine ⟨undef, m, _, .inr ⟨key _ ?_, rfl⟩, VR_undef m, g1, g2⟩
          simp only [Instr.mapUpdate, Sem.run_bind, run_underlying ht, Result.andThen_ok, hg, hck, q2]
          exact MapKept.run_setObj_map _ h4
        · rw [q6] at hs
          cases hs
          have hm' : MapR m (es.set j (opd y' e, opd z' e)) (ces.modify j fun e => { e with key := a.eval y, val := a.eval z }).toList := by
            rw [Array.toList_modify]
            exact h5.set (fun _ => hyv) (fun _ => hzv)
          obtain ⟨g1, g2⟩ := hR.writeMap hlo' hi hr (clock' := clock) hm'
          refine ⟨undef, m, _, .inr ⟨key _ ?_, rfl⟩, VR_undef m, g1, g2⟩
          have hj : ces[j]? = some en := by simpa using q3
          simp only [Instr.mapUpdate, Sem.run_bind, run_underlying ht, Result.andThen_ok, hg, hck, q2, hj, Option.map_some, Option.getD_some, q4, hst]
          exact MapKept.run_setObj_map _ h4
  · cases h'

end

end Go.Vm

/- append, copy, clear, bytes to a string, equality: the steps. -/
namespace Go.Vm
variable [Gl]

section
variable {P : Program} {o : Oper} {a : Act} {e : E} {lo : Nat} {m : Mp} {σ σ' : St} {w : World} {v : V} {ev : Ev}

theorem s_append {ts tx el : TypeId} {dx : TypeDesc} {s : Nat × Nat} {zero : List V} {x y : Operand} {x' y' : Opd} (ho : o.op = .call { callee := .builtin .append, args := #[x, y], argTypes := #[ts, tx] })
    (hts : P.underlying ts = some (.slice el)) (htx : P.underlying tx = some dx) (hdx : (∃ e', dx = .slice e') ∨ dx = .string) (hs : sizeB P el = some s) (hz : zeroB P el = some zero)
    (hx : cOpd x = some x') (hy : cOpd y = some y') (hE : ER m e a) (hR : Rel lo m σ w) (h : oAppend s.1 s.2 x' y' ev lo e σ = .v v σ') : VSim P o a lo m σ w v σ' := by
  have hxv := opd_VR hR.pins hE hx
  have hyv := opd_VR hR.pins hE hy
  obtain ⟨i, hi, rfl⟩ := sizeB_some hs
  obtain ⟨i', z, hi', hzz, hzr, hzl⟩ := zeroB_some hz
  rw [hi] at hi'; cases hi'
  have hzs : z.cells.size = i.size := by have := VRs_length (hzr m); simp at this; omega
  unfold oAppend at h
  cases hn : lenV (opd y' e) with
  | none => rw [hn] at h; cases h
  | some n =>
    rw [hn] at h
    change appendO lo i.size i.bytes (opd x' e) n σ (firstN i.size n σ (opd y' e)) = .v v σ' at h
    cases hf : firstN i.size n σ (opd y' e) with
    | none => rw [hf] at h; cases h
    | some news =>
      rw [hf] at h
      obtain ⟨cnews, h1, h2, h3, h4⟩ := hR.first (P := P) hyv hn (Nat.le_refl _) hf
      obtain ⟨cv, m', w', g1, g2, g3, g4⟩ := append_core (P := P) (ty := o.type) hts htx hdx hi hzz hzs hR hxv h1 h2 h3 h4 h
      refine ⟨cv, m', w', .inl ?_, g2, g3, g4⟩
      simp [execOp, ho, resolve, invoke, builtin, g1]

omit [Gl] in
theorem natsV_some {m : Mp} : ∀ {l : List V} {cl : List Value} {r : List Nat}, natsV l = some r → VRs m l cl → cl = r.map (fun n : Nat => Value.int .u8 (n : Int)) ∧ ∀ n ∈ r, n ≤ 255
  | [], cl, r, h, hv => by cases h; exact ⟨VRs_nil_inv hv, fun _ hn => by cases hn⟩
  | x :: l, cl, r, h, hv => by
    obtain ⟨c, cs, rfl, h1, h2⟩ := VRs_cons_inv hv
    have h' : consBO (byteOf x) (natsV l) = some r := h
    cases hb : byteOf x with
    | none => rw [hb] at h'; cases h'
    | some b =>
      rw [hb] at h'
      have h'' : consB b (natsV l) = some r := h'
      cases hl : natsV l with
      | none => rw [hl] at h''; cases h''
      | some bs =>
        rw [hl] at h''
        cases h''
        obtain ⟨h3, h4⟩ := natsV_some hl h2
        unfold byteOf at hb
        split at hb
        · rename_i n
          rcases cond_some hb with ⟨h5, h6⟩ | ⟨_, h6⟩
          · cases n with
            | ofNat q =>
              cases h6
              simp only [VR] at h1
              refine ⟨by rw [h1, h3]; rfl, ?_⟩
              intro q' hq
              rcases List.mem_cons.1 hq with rfl | hq
              · exact Nat.le_of_ble_eq_true h5
              · exact h4 q' hq
            | negSucc q => cases h6
          · cases h6
        · cases hb

omit [Gl] in
theorem foldl_push (r : List Nat) (hr : ∀ n ∈ r, n ≤ 255) : ∀ (b : ByteArray), ((r.map (fun n : Nat => (n : Int))).foldl (fun r n => r.push (UInt8.ofNat n.toNat)) b).data.toList.map (·.toNat) = b.data.toList.map (·.toNat) ++ r := by
  induction r with
  | nil => intro b; simp
  | cons n r ih =>
    intro b
    simp only [List.map_cons, List.foldl_cons]
    rw [ih (fun x hx => hr x (by simp [hx]))]
    have hn := hr n (by simp)
    have : (b.push (UInt8.ofNat (n : Int).toNat)).data.toList.map (·.toNat) = b.data.toList.map (·.toNat) ++ [n] := by
      simp [ByteArray.push]
      omega
    rw [this]
    simp

theorem s_strOf {s d el : TypeId} {x : Operand} {x' : Opd} (ho : o.op = .convert s d x) (hs : P.underlying s = some (.slice el)) (hd : P.underlying d = some .string) (hel : P.underlying el = some (.int .u8)) (hx : cOpd x = some x')
    (hE : ER m e a) (hR : Rel lo m σ w) (h : oStrOf x' ev lo e σ = .v v σ') : VSim P o a lo m σ w v σ' := by
  have hv := opd_VR hR.pins hE hx
  obtain ⟨h1, rfl⟩ := val_v h
  unfold strOfV at h1
  split at h1
  · rename_i hb
    cases h1
    rw [hb] at hv
    simp only [VR] at hv
    refine VSim.same hR (cv := .string ByteArray.empty) ?_ (by simp only [VR]; exact ⟨_, rfl, rfl⟩)
    simp [execOp, ho, hv, convert, run_underlying hs, run_underlying hd, run_underlying hel, Conv.bytesToString]
  · rename_i b q len cap hb
    rw [hb] at hv
    simp only [VR] at hv
    obtain ⟨i, A, c, hi, hv, hlen, hA, _⟩ := hv
    cases hr : readN σ' b q len with
    | none => rw [hr] at h1; cases h1
    | some cs =>
      rw [hr] at h1
      have h2 : strB (natsV cs) = some v := h1
      cases hn : natsV cs with
      | none => rw [hn] at h2; cases h2
      | some ns =>
        rw [hn] at h2
        cases h2
        obtain ⟨ccs, g1, g2, g3⟩ := hR.loadSl (P := P) (_cap := cap) (k := len) (esz := 1) hi hlen hA (Nat.le_refl _) (by simpa using hr)
        obtain ⟨g4, g5⟩ := natsV_some hn g1
        have hld := g3 w rfl
        rw [Nat.mul_one, g4] at hld
        have hbs := run_bytesToString (P := P) w A len c (ns.map (fun n : Nat => (n : Int))) (by rw [hld]; simp [Function.comp_def])
        refine VSim.same hR (cv := .string ((ns.map (fun n : Nat => (n : Int))).foldl (fun r n => r.push (UInt8.ofNat n.toNat)) ByteArray.empty)) ?_ ?_
        · have hcv := run_convert_bytes_string (P := P) w s d el (some A) len c hs hel hd
          simp only [execOp, ho, hv, Sem.run_bind]
          rw [hcv, hbs]
          rfl
        · simp only [VR]
          refine ⟨_, rfl, ?_⟩
          rw [foldl_push ns g5]
          simp
  · cases h1

omit [Gl] in
theorem minN_eq (x y : Nat) : minN x y = min x y := by
  unfold minN
  cases h : Nat.ble x y with
  | true =>
    have h9 := Nat.le_of_ble_eq_true h
    simp only [cond_true]
    omega
  | false =>
    have : ¬ x ≤ y := fun hh => by
      have h9 : Nat.ble x y = true := Nat.ble_eq_true_of_le hh
      rw [h9] at h; cases h
    simp only [cond_false]
    omega

omit [Gl] in
theorem isSl_some {v : V} {n : Nat} (h : isSl v = some n) : (v = .nilsl ∧ n = 0) ∨ ∃ b q c, v = .slice b q n c := by
  unfold isSl at h
  split at h
  · cases h; exact .inl ⟨rfl, rfl⟩
  · cases h; exact .inr ⟨_, _, _, rfl⟩
  · cases h

theorem s_copy {td ts el : TypeId} {s : Nat × Nat} {x y : Operand} {x' y' : Opd} (ho : o.op = .call { callee := .builtin .copy, args := #[x, y], argTypes := #[td, ts] })
    (htd : P.underlying td = some (.slice el)) (hs : sizeB P el = some s) (hx : cOpd x = some x') (hy : cOpd y = some y') (hE : ER m e a) (hR : Rel lo m σ w)
    (h : oCopy s.1 x' y' ev lo e σ = .v v σ') : VSim P o a lo m σ w v σ' := by
  have hxv := opd_VR hR.pins hE hx
  have hyv := opd_VR hR.pins hE hy
  unfold oCopy at h
  cases hd : isSl (opd x' e) with
  | none => rw [hd] at h; cases h
  | some dl =>
    cases hn : lenV (opd y' e) with
    | none => rw [hd, hn] at h; cases h
    | some sl =>
      rw [hd, hn] at h
      change copyTo lo (minN sl dl) (opd x' e) σ (firstN s.1 (minN sl dl) σ (opd y' e)) = .v v σ' at h
      cases hf : firstN s.1 (minN sl dl) σ (opd y' e) with
      | none => rw [hf] at h; cases h
      | some news =>
        rw [hf] at h
        have hmin := minN_eq sl dl
        obtain ⟨cnews, h1, h2, h3, h4⟩ := hR.first (P := P) hyv hn (by omega) hf
        have key : ∀ r w', (Builtin.copy_ #[td, ts] o.type #[a.eval x, a.eval y]).run P w = .ok r w' → (execOp a.eval o).run P w = .ok (.value r) w' := by
          intro r w' hr
          simp [execOp, ho, resolve, invoke, builtin, hr]
        rcases isSl_some hd with ⟨hb, rfl⟩ | ⟨b, q, c, hb⟩
        · rw [hb] at h hxv
          cases h
          simp only [VR] at hxv
          refine VSim.same hR (cv := .int .i64 ((minN sl 0 : Nat) : Int)) (key _ _ ?_) (by simp [VR])
          have h4' := h4 w rfl
          rw [hmin, Nat.min_zero] at h4'
          simp only [Builtin.copy_, hxv]
          simp [run_underlying htd, h3, run_sizeOf hs, h4', goInt, hmin]
        · rw [hb] at h hxv
          obtain ⟨h5, rfl⟩ := wrote_v (h : wrote (.int .i64 (.ofNat (minN sl dl))) (writeN lo σ b q news) = .v v σ')
          simp only [VR] at hxv
          obtain ⟨i, A, cc, hi, hxv, hlen, hA, _⟩ := hxv
          have hst : ∃ w', (storeCells A cnews).run P w = .ok () w' ∧ Rel lo m σ' w' ∧ Ext lo m σ w m σ' w' := by
            by_cases hc : cc = 0
            · have hm0 : minN sl dl = 0 := by omega
              have hl := VRs_length h1
              have : news = [] := List.eq_nil_of_length_eq_zero (by rw [h2, hm0, Nat.zero_mul])
              subst this
              have : cnews = [] := List.eq_nil_of_length_eq_zero (by simp at hl; omega)
              subst this
              cases h5
              exact ⟨w, rfl, hR, Ext.refl _ _ _ _⟩
            · rw [hA hc]
              exact hR.write (P := P) hi h1 h5
          obtain ⟨w', g1, g2, g3⟩ := hst
          refine ⟨.int .i64 ((minN sl dl : Nat) : Int), m, w', .inl (key _ _ ?_), by simp [VR], g2, g3⟩
          rw [hmin] at h4
          simp only [Builtin.copy_, hxv]
          simp [run_underlying htd, h3, run_sizeOf hs, h4 w rfl, goInt, hmin, g1]

theorem s_clear {td el : TypeId} {zero : List V} {x : Operand} {x' : Opd} (ho : o.op = .call { callee := .builtin .clear, args := #[x], argTypes := #[td] })
    (htd : P.underlying td = some (.slice el)) (hz : zeroB P el = some zero) (hx : cOpd x = some x') (hE : ER m e a) (hR : Rel lo m σ w)
    (h : oClear zero x' ev lo e σ = .v v σ') : VSim P o a lo m σ w v σ' := by
  have hxv := opd_VR hR.pins hE hx
  obtain ⟨i', z, hi', hzz, hzr, hzl⟩ := zeroB_some hz
  have hzs : z.cells.size = i'.size := by have := VRs_length (hzr m); simp at this; omega
  have key : ∀ r w', (Builtin.clear_ #[td] o.type #[a.eval x]).run P w = .ok r w' → (execOp a.eval o).run P w = .ok (.value r) w' := by
    intro r w' hr
    simp [execOp, ho, resolve, invoke, builtin, hr]
  have h' : clearV lo zero σ (opd x' e) = .v v σ' := h
  unfold clearV at h'
  split at h'
  · rename_i b q n cap hb
    rw [hb] at hxv
    obtain ⟨h5, rfl⟩ := wrote_v h'
    simp only [VR] at hxv
    obtain ⟨i, A, cc, hi, hxv, hlen, hA, _⟩ := hxv
    by_cases hn : n = 0
    · subst hn
      cases h5
      refine ⟨undef, m, w, .inl (key _ _ ?_), VR_undef m, hR, Ext.refl _ _ _ _⟩
      simp only [Builtin.clear_, hxv]
      simp [run_underlying htd]
      rfl
    · have hvr : VRs m (repN n zero) (Builtin.zeroCells z.cells n).toList := by
        rw [repN_eq]
        by_cases hz0 : z.cells.size = 0
        · have h6 : zero = [] := List.eq_nil_of_length_eq_zero (by omega)
          have h7 : (Builtin.zeroCells z.cells n).toList = [] := List.eq_nil_of_length_eq_zero (by rw [Array.length_toList, size_zeroCells, hz0, Nat.mul_zero])
          rw [h6, h7]
          have h8 : (List.replicate n ([] : List V)).flatten = [] := by simp
          rw [h8]; exact VRs_nil m
        · have h7 := range_map_mod z.cells (by omega) n
          unfold Builtin.zeroCells
          rw [h7]
          exact VRs_flatten (hzr m) n
      obtain ⟨w', g1, g2, g3⟩ := hR.write (P := P) hi hvr h5
      refine ⟨undef, m, w', .inl (key _ _ ?_), VR_undef m, g2, g3⟩
      have hcc : cc ≠ 0 := by omega
      rw [← hA hcc] at g1
      obtain ⟨k, rfl⟩ : ∃ k, n = k + 1 := ⟨n - 1, by omega⟩
      simp only [Builtin.clear_, hxv]
      simp [run_underlying htd, zeroValue, typeInfo, hi', hzz, g1]
      rfl
  · rename_i hb
    cases h'
    rw [hb] at hxv
    simp only [VR] at hxv
    refine ⟨undef, m, w, .inl (key _ _ ?_), VR_undef m, hR, Ext.refl _ _ _ _⟩
    simp only [Builtin.clear_, hxv]
    simp [run_underlying htd]
    rfl
  · cases h'

omit [Gl] in
theorem isNilC_R {y : V} {cy : Value} (h : isNilC y = true) (hy : VR m y cy) :
    (kindN y = 1 ∧ cy = .pointer none) ∨ (kindN y = 2 ∧ cy = .slice none 0 0) ∨ (kindN y = 3 ∧ cy = .map none) ∨ (kindN y = 4 ∧ cy = .nilFunc) := by
  cases y <;> simp only [isNilC] at h <;> first | (cases h; done) | skip
  all_goals simp only [VR] at hy; subst hy; simp [kindN]

omit [Gl] in
/-- With nil. -/
theorem equal_nil {t : TypeId} {kind : Nat} {x y : V} {cx cy : Value} {b : Bool} (hk : eqKind P t = some (.nil kind)) (h : eqNilV kind x y = some b) (hx : VR m x cx) (hy : VR m y cy) (w : World) :
    (Op.equal t cx cy).run P w = .ok b w ∧ (∀ op p q, (eqGuard op t p q cx cy).run P w = .ok () w) ∧ (∀ k n, cx ≠ .int k n) ∧ (∀ k n c, cx ≠ .complex k n c) ∧ (∀ k n, cx ≠ .float k n) ∧ ∀ s, cx ≠ .string s := by
  unfold eqNilV at h
  rcases cond_some h with ⟨h1, h⟩ | ⟨_, h⟩
  case inr => cases h
  cases hc : isNilC y with
  | false => rw [hc] at h1; cases h1
  | true =>
    rw [hc] at h1
    cases hy1 : Nat.beq (kindN y) kind with
    | false => rw [hy1] at h1; cases h1
    | true =>
      rw [hy1] at h1
      have e1 := Nat.eq_of_beq_eq_true hy1
      have e2 := Nat.eq_of_beq_eq_true (h1 : Nat.beq (kindN x) kind = true)
      have hcy := isNilC_R (m := m) hc hy
      unfold eqKind at hk
      cases x with
      | nilptr =>
        cases h
        simp only [kindN] at e2
        subst e2
        simp only [VR] at hx
        subst hx
        rcases hcy with ⟨q1, rfl⟩ | ⟨q1, rfl⟩ | ⟨q1, rfl⟩ | ⟨q1, rfl⟩ <;> try omega
        split at hk <;> simp at hk
        rename_i el hu
        refine ⟨?_, ?_, by simp, by simp, by simp, by simp⟩
        · unfold Op.equal Op.maxDepth
          rw [show (10000 : Nat) = 9999 + 1 from rfl, Op.equalIn]
          simp [run_underlying hu]
        · intro op p q
          rw [eqGuard_at_pointer]
          rfl
      | ptr _ _ =>
        cases h
        simp only [kindN] at e2
        subst e2
        simp only [VR] at hx
        obtain ⟨_, _, rfl⟩ := hx
        rcases hcy with ⟨q1, rfl⟩ | ⟨q1, rfl⟩ | ⟨q1, rfl⟩ | ⟨q1, rfl⟩ <;> try omega
        split at hk <;> simp at hk
        rename_i el hu
        refine ⟨?_, ?_, by simp, by simp, by simp, by simp⟩
        · unfold Op.equal Op.maxDepth
          rw [show (10000 : Nat) = 9999 + 1 from rfl, Op.equalIn]
          simp [run_underlying hu]
        · intro op p q
          rw [eqGuard_at_pointer]
          rfl
      | nilsl =>
        cases h
        simp only [kindN] at e2
        subst e2
        simp only [VR] at hx
        subst hx
        rcases hcy with ⟨q1, rfl⟩ | ⟨q1, rfl⟩ | ⟨q1, rfl⟩ | ⟨q1, rfl⟩ <;> try omega
        split at hk <;> simp at hk
        rename_i el hu
        refine ⟨?_, ?_, by simp, by simp, by simp, by simp⟩
        · unfold Op.equal Op.maxDepth
          rw [show (10000 : Nat) = 9999 + 1 from rfl, Op.equalIn]
          simp [run_underlying hu]
        · intro op p q
          rw [eqGuard_at_slice]
          rfl
      | slice _ _ _ _ =>
        cases h
        simp only [kindN] at e2
        subst e2
        simp only [VR] at hx
        obtain ⟨_, _, _, _, rfl, _⟩ := hx
        rcases hcy with ⟨q1, rfl⟩ | ⟨q1, rfl⟩ | ⟨q1, rfl⟩ | ⟨q1, rfl⟩ <;> try omega
        split at hk <;> simp at hk
        rename_i el hu
        refine ⟨?_, ?_, by simp, by simp, by simp, by simp⟩
        · unfold Op.equal Op.maxDepth
          rw [show (10000 : Nat) = 9999 + 1 from rfl, Op.equalIn]
          simp [run_underlying hu]
        · intro op p q
          rw [eqGuard_at_slice]
          rfl
      | nilmap =>
        cases h
        simp only [kindN] at e2
        subst e2
        simp only [VR] at hx
        subst hx
        rcases hcy with ⟨q1, rfl⟩ | ⟨q1, rfl⟩ | ⟨q1, rfl⟩ | ⟨q1, rfl⟩ <;> try omega
        split at hk <;> simp at hk
        rename_i kt el hu
        refine ⟨?_, ?_, by simp, by simp, by simp, by simp⟩
        · unfold Op.equal Op.maxDepth
          rw [show (10000 : Nat) = 9999 + 1 from rfl, Op.equalIn]
          simp [run_underlying hu]
        · intro op p q
          rw [eqGuard_at_map]
          rfl
      | map _ =>
        cases h
        simp only [kindN] at e2
        subst e2
        simp only [VR] at hx
        obtain ⟨_, _, rfl⟩ := hx
        rcases hcy with ⟨q1, rfl⟩ | ⟨q1, rfl⟩ | ⟨q1, rfl⟩ | ⟨q1, rfl⟩ <;> try omega
        split at hk <;> simp at hk
        rename_i kt el hu
        refine ⟨?_, ?_, by simp, by simp, by simp, by simp⟩
        · unfold Op.equal Op.maxDepth
          rw [show (10000 : Nat) = 9999 + 1 from rfl, Op.equalIn]
          simp [run_underlying hu]
        · intro op p q
          rw [eqGuard_at_map]
          rfl
      | nilFunc =>
        cases h
        simp only [kindN] at e2
        subst e2
        simp only [VR] at hx
        subst hx
        rcases hcy with ⟨q1, rfl⟩ | ⟨q1, rfl⟩ | ⟨q1, rfl⟩ | ⟨q1, rfl⟩ <;> try omega
        split at hk <;> simp at hk
        rename_i  hu
        refine ⟨?_, ?_, by simp, by simp, by simp, by simp⟩
        · unfold Op.equal Op.maxDepth
          rw [show (10000 : Nat) = 9999 + 1 from rfl, Op.equalIn]
          simp [run_underlying hu]
        · intro op p q
          rw [eqGuard_at_nilFunc]
          rfl
      | func _ _ _ =>
        cases h
        simp only [kindN] at e2
        subst e2
        simp only [VR] at hx
        obtain ⟨_, _, rfl, _⟩ := hx
        rcases hcy with ⟨q1, rfl⟩ | ⟨q1, rfl⟩ | ⟨q1, rfl⟩ | ⟨q1, rfl⟩ <;> try omega
        split at hk <;> simp at hk
        rename_i  hu
        refine ⟨?_, ?_, by simp, by simp, by simp, by simp⟩
        · unfold Op.equal Op.maxDepth
          rw [show (10000 : Nat) = 9999 + 1 from rfl, Op.equalIn]
          simp [run_underlying hu]
        · intro op p q
          rw [eqGuard_at_func]
          rfl
      | _ => cases h

end

end Go.Vm

/- Equality: the steps. -/
namespace Go.Vm
variable [Gl]

omit [Gl] in
/-- One scalar to another. -/
theorem scal_equal {P : Program} {m : Mp} {t : TypeId} {c : Nat} {x y : V} {cx cy : Value} {b : Bool} (hk : scalC P t = some c) (h : keyEq c x y = some b) (hx : VR m x cx) (hy : VR m y cy) (w : World) (d : Nat) :
    (Op.equalIn (d + 1) t cx cy).run P w = .ok b w := by
  unfold scalC at hk
  split at hk
  · rename_i q hd
    cases hk
    obtain ⟨k, i, j, rfl, rfl, rfl⟩ := intKey_some (h : intKey x y = some b) hx hy
    exact run_equalIn_int w d t k q i j hd
  · rename_i hd
    cases hk
    obtain ⟨i, j, rfl, rfl, rfl⟩ := strKey_some (h : strKey x y = some b) hx hy
    rw [run_equalIn_string w d t i j hd, beq_toListBytes]
  · rename_i hd
    cases hk
    obtain ⟨i, j, rfl, rfl, rfl⟩ := boolKey_some (h : boolKey x y = some b) hx hy
    exact run_equalIn_bool' w d t i j hd
  · cases hk

omit [Gl] in
theorem scalC_plain {P : Program} {t : TypeId} {c : Nat} (hk : scalC P t = some c) : P.plainKey t = true := by
  unfold scalC at hk
  split at hk
  · rename_i hd; simp [Program.plainKey, hd]
  · rename_i hd; simp [Program.plainKey, hd]
  · rename_i hd; simp [Program.plainKey, hd]
  · cases hk

omit [Gl] in
theorem flat_run {P : Program} {m : Mp} (w : World) {A B : Array Value} {xs0 ys0 : List V} (hA : VRs m xs0 A.toList) (hB : VRs m ys0 B.toList) : ∀ (fs : List Field) (k : Nat) (cs : List Nat) (xs ys : List V) (b : Bool),
    flatC P k fs = some cs → flatEq cs xs ys = some b → xs = xs0.drop k → ys = ys0.drop k → (Op.eqFields 9999 A B fs).run P w = .ok b w
  | [], k, cs, xs, ys, b, hc, h, _, _ => by
    cases hc
    cases h
    rfl
  | f :: fs, k, cs, xs, ys, b, hc, h, hx, hy => by
    unfold flatC at hc
    split at hc
    · rename_i hf
      split at hc
      · rename_i c cs' h1 h2
        cases hc
        cases xs with
        | nil => cases h
        | cons x xs =>
          cases ys with
          | nil => cases h
          | cons y ys =>
            have h5 : andO (keyEq c x y) (flatEq cs' xs ys) = some b := h
            obtain ⟨p, q, h3, h4, rfl⟩ := andO_some h5
            have hxk : xs0[k]? = some x := by
              have := congrArg (fun l => l[0]?) hx
              simpa using this.symm
            have hyk : ys0[k]? = some y := by
              have := congrArg (fun l => l[0]?) hy
              simpa using this.symm
            have hxs : xs = xs0.drop (k + 1) := by
              have := congrArg List.tail hx
              simpa [List.tail_drop] using this
            have hys : ys = ys0.drop (k + 1) := by
              have := congrArg List.tail hy
              simpa [List.tail_drop] using this
            obtain ⟨cx, g1, g2⟩ := ((VRs_iff m _ _).1 hA).2 k x hxk
            obtain ⟨cy, g3, g4⟩ := ((VRs_iff m _ _).1 hB).2 k y hyk
            have ih := flat_run w hA hB fs (k + 1) cs' xs ys q h2 h4 hxs hys
            have p1 := run_part_plain (P := P) w (scalC_plain h1) (xs := A) (off := f.offset) (v := cx) (by rw [hf.2]; simpa using g1)
            have p2 := run_part_plain (P := P) w (scalC_plain h1) (xs := B) (off := f.offset) (v := cy) (by rw [hf.2]; simpa using g3)
            have p3 := scal_equal (P := P) h1 h3 g2 g4 w 9998
            simp only [Op.eqFields, hf.1, ne_eq, not_false_eq_true, if_true, Sem.run_bind, p1, p2, p3, Result.andThen_ok]
            cases p
            · simp
            · simpa using ih
      · cases hc
    · cases hc

omit [Gl] in
theorem binOp_equal {P : Program} (w : World) (neg : Bool) (t : TypeId) {cx cy : Value} (h1 : ∀ k n, cx ≠ .int k n) (h2 : ∀ k n c, cx ≠ .complex k n c) (h3 : ∀ k n, cx ≠ .float k n) (h4 : ∀ s, cx ≠ .string s)
    {b : Bool} (h : (Op.equal t cx cy).run P w = .ok b w) : (binOp (cond neg .neq .eql) t cx cy).run P w = .ok (.bool (cond neg (not b) b)) w := by
  cases cx
  case int k n => exact absurd rfl (h1 k n)
  case complex k n c => exact absurd rfl (h2 k n c)
  case float k n => exact absurd rfl (h3 k n)
  case string s => exact absurd rfl (h4 s)
  all_goals cases neg <;> simp [binOp, h]

section
variable {P : Program} {o : Oper} {a : Act} {e : E} {lo : Nat} {m : Mp} {σ σ' : St} {w : World} {v : V} {ev : Ev}

omit [Gl] in
theorem boolO_some {neg : Bool} {x : Option Bool} (h : boolO neg x = some v) : ∃ b, x = some b ∧ v = .bool (cond neg (not b) b) := by
  cases x with
  | none => cases h
  | some b => cases h; exact ⟨b, rfl, rfl⟩

theorem s_eq {neg : Bool} {k : EqK} {t ty : TypeId} {x y : Operand} {x' y' : Opd} (ho : o.op = .binOp (cond neg .neq .eql) t x y ty) (hk : eqKind P t = some k)
    (hc : k = .iface → isConstOp x = true ∨ isConstOp y = true) (hx : cOpd x = some x') (hy : cOpd y = some y') (hE : ER m e a) (hR : Rel lo m σ w)
    (h : oEq neg k x' y' ev lo e σ = .v v σ') : VSim P o a lo m σ w v σ' := by
  obtain ⟨h1, rfl⟩ := val_v h
  obtain ⟨b, h2, rfl⟩ := boolO_some h1
  have hxv := opd_VR hR.pins hE hx
  have hyv := opd_VR hR.pins hE hy
  refine VSim.same hR (cv := .bool (cond neg (not b) b)) ?_ (by simp only [VR])
  have key : (eqGuard (cond neg .neq .eql) t x y (a.eval x) (a.eval y)).run P w = .ok () w → (binOp (cond neg .neq .eql) t (a.eval x) (a.eval y)).run P w = .ok (.bool (cond neg (not b) b)) w →
      (execOp a.eval o).run P w = .ok (.value (.bool (cond neg (not b) b))) w := by
    intro q1 q2
    simp [execOp, ho, q1, q2]
  cases k with
  | bool =>
    obtain ⟨p, q, hp, hq, hb⟩ := boolKey_some (h2 : boolKey (opd x' e) (opd y' e) = some b) hxv hyv
    have hu : P.underlying t = some .bool := by
      unfold eqKind at hk
      split at hk <;> simp at hk
      assumption
    rw [hp, hq] at key
    refine key (by rw [eqGuard_at_bool]; rfl) (binOp_equal w neg t (by simp) (by simp) (by simp) (by simp) ?_)
    rw [hb]
    exact run_equal_bool w t p q hu
  | nil kind =>
    obtain ⟨q1, q2, q3, q4, q5, q6⟩ := equal_nil (P := P) hk (h2 : eqNilV kind (opd x' e) (opd y' e) = some b) hxv hyv w
    exact key (q2 _ _ _) (binOp_equal w neg t q3 q4 q5 q6 q1)
  | iface =>
    have hu : ∃ ms, P.underlying t = some (.interface ms) := by
      unfold eqKind at hk
      split at hk <;> simp at hk
      exact ⟨_, by assumption⟩
    obtain ⟨ms, hu⟩ := hu
    have h3 : eqIfaceV (opd x' e) (opd y' e) = some b := h2
    unfold eqIfaceV at h3
    split at h3
    · rename_i t1 v1 hx1 hy1
      cases h3
      rw [hx1] at hxv; rw [hy1] at hyv
      simp only [VR] at hxv hyv
      obtain ⟨u, hxv, _⟩ := hxv
      rw [hxv, hyv] at key
      refine key (by rw [eqGuard_at_iface]; rfl) (binOp_equal w neg t (by simp) (by simp) (by simp) (by simp) ?_)
      unfold Op.equal Op.maxDepth
      rw [show (10000 : Nat) = 9999 + 1 from rfl, Op.equalIn]
      simp [run_underlying hu]
    · rename_i t1 v1 hx1 hy1
      cases h3
      rw [hx1] at hxv; rw [hy1] at hyv
      simp only [VR] at hxv hyv
      obtain ⟨u, hyv, _⟩ := hyv
      rw [hxv, hyv] at key
      refine key (by rw [eqGuard_nil_iface]; rfl) (binOp_equal w neg t (by simp) (by simp) (by simp) (by simp) ?_)
      unfold Op.equal Op.maxDepth
      rw [show (10000 : Nat) = 9999 + 1 from rfl, Op.equalIn]
      simp [run_underlying hu]
    · rename_i hx1 hy1
      cases h3
      rw [hx1] at hxv; rw [hy1] at hyv
      simp only [VR] at hxv hyv
      rw [hxv, hyv] at key
      refine key ?_ (binOp_equal w neg t (by simp) (by simp) (by simp) (by simp) ?_)
      · rcases hc rfl with hc | hc
        · cases x <;> simp only [isConstOp] at hc <;> first | (cases hc; done) | skip
          rw [eqGuard_nil_constL]; rfl
        · cases y <;> simp only [isConstOp] at hc <;> first | (cases hc; done) | skip
          rw [eqGuard_nil_constR]; rfl
      · unfold Op.equal Op.maxDepth
        rw [show (10000 : Nat) = 9999 + 1 from rfl, Op.equalIn]
        simp [run_underlying hu]
    · cases h3
  | flat cs =>
    have h3 : eqFlatV cs (opd x' e) (opd y' e) = some b := h2
    unfold eqFlatV at h3
    split at h3
    · rename_i xs ys hx1 hy1
      rw [hx1] at hxv; rw [hy1] at hyv
      simp only [VR] at hxv hyv
      obtain ⟨A, hxv, hA⟩ := hxv
      obtain ⟨B, hyv, hB⟩ := hyv
      rw [hxv, hyv] at key
      unfold eqKind at hk
      split at hk <;> simp at hk
      rename_i fs hu
      obtain ⟨⟨g1, g2⟩, g3⟩ := hk
      have hfo : P.fieldsOf t = fs := by simp [Program.fieldsOf, hu]
      refine key (run_eqGuard_agg w _ t x y A B g1) (binOp_equal w neg t (by simp) (by simp) (by simp) (by simp) ?_)
      unfold Op.equal Op.maxDepth
      rw [show (10000 : Nat) = 9999 + 1 from rfl, run_equalIn_struct w 9999 t A B (by rw [hfo]; exact hu) g2, hfo]
      exact flat_run w hA hB fs.toList 0 cs xs ys b g3 h3 (by simp) (by simp)
    · cases h3

end

end Go.Vm

/- Every operation: what it does in the model is what the evaluator says. -/
namespace Go.Vm
variable [Gl]

/-- What a call does: from the store σ it returns v and leaves σ'. -/
def Does (P : Program) (lo f : Nat) (args : List V) (σ : St) (v : V) (σ' : St) : Prop :=
  ∀ (m : Mp) (w : World) (cargs : Array Value), Rel lo m σ w → VRs m args cargs.toList →
    (∃ fn c, P.funcs[f]? = some fn ∧ fn.body = some c ∧ fn.name ≠ "runtime.NumGoroutine") ∧
      Calls P f cargs w fun e w' => ∃ cv m', e = .returned cv ∧ VR m' v cv ∧ Rel lo m' σ' w' ∧ Ext lo m σ w m' σ' w'

def CallOk (P : Program) (ev : Ev) : Prop :=
  ∀ (lo f : Nat) (args : List V) (σ σ' : St) (v : V), ev.call lo f args σ = .v v σ' → Does P lo f args σ v σ'

section
variable {P : Program} {o : Oper} {a : Act} {e : E} {lo : Nat} {m : Mp} {σ σ' : St} {w : World} {v : V} {ev : Ev} {next : Act → World → Prop} {Q : Exit → Act → World → Prop}

/-- What a step's run leads to: a value at once, or a call that returns one. -/
def RunsTo (P : Program) (r : Result Next) (lo : Nat) (m : Mp) (σ : St) (w : World) (v : V) (σ' : St) : Prop :=
  (∃ cv m' w', (r = .ok (.value cv) w' ∨ (r = .ok .skip w' ∧ cv = undef)) ∧ VR m' v cv ∧ Rel lo m' σ' w' ∧ Ext lo m σ w m' σ' w') ∨
  ∃ f args, r = .ok (.enter f args) w ∧ Calls P f args w fun e w' => ∃ cv m', e = .returned cv ∧ VR m' v cv ∧ Rel lo m' σ' w' ∧ Ext lo m σ w m' σ' w'

def StepsTo (P : Program) (o : Oper) (a : Act) (lo : Nat) (m : Mp) (σ : St) (w : World) (v : V) (σ' : St) : Prop :=
  RunsTo P ((execOp a.eval o).run P w) lo m σ w v σ'

theorem RunsTo.wp (h : RunsTo P ((execOp a.eval o).run P w) lo m σ w v σ') (hn : ∀ cv m' w', VR m' v cv → Rel lo m' σ' w' → Ext lo m σ w m' σ' w' → next (a.put o.dst cv) w') : o.wp P a w next Q := by
  unfold Oper.wp
  rcases h with ⟨cv, m', w', h1, h2, h3, h4⟩ | ⟨f, args, h1, h2⟩
  · rcases h1 with h1 | ⟨h1, rfl⟩
    · rw [h1, Oper.upon_value]
      exact hn cv m' w' h2 h3 h4
    · rw [h1, Oper.upon_skip]
      exact hn undef m' w' h2 h3 h4
  · rw [h1, Oper.upon_enter]
    refine h2.mono ?_
    rintro e w' ⟨cv, m', rfl, g1, g2, g3⟩
    exact hn cv m' w' g1 g2 g3

theorem RunsTo.fact {r : Result Next} (h : RunsTo P r lo m σ w v σ') : ∃ cv m' w', VR m' v cv ∧ Rel lo m' σ' w' ∧ Ext lo m σ w m' σ' w' := by
  rcases h with ⟨cv, m', w', _, h2, h3, h4⟩ | ⟨f, args, _, h2⟩
  · exact ⟨cv, m', w', h2, h3, h4⟩
  · obtain ⟨e, w', fr, ⟨cv, m', _, g1, g2, g3⟩, _⟩ := h2 []
    exact ⟨cv, m', w', g1, g2, g3⟩

theorem VSim.to (h : VSim P o a lo m σ w v σ') : StepsTo P o a lo m σ w v σ' := .inl h

theorem call_to (hev : CallOk P ev) {f : Nat} {args : List V} {cargs : Array Value} (hr : ∀ fn c, P.funcs[f]? = some fn → fn.body = some c → fn.name ≠ "runtime.NumGoroutine" → (execOp a.eval o).run P w = .ok (.enter f cargs) w)
    (hR : Rel lo m σ w) (ha : VRs m args cargs.toList) (h : ev.call lo f args σ = .v v σ') : StepsTo P o a lo m σ w v σ' := by
  obtain ⟨⟨fn, c, h1, h2, h3⟩, h4⟩ := hev lo f args σ σ' v h m w cargs hR ha
  exact .inr ⟨f, cargs, hr fn c h1 h2 h3, h4⟩

omit [Gl] in
theorem run_callFunc_enter {f : Nat} {fn : Func} {c : Code} (hf : P.funcs[f]? = some fn) (hb : fn.body = some c) (hn : fn.name ≠ "runtime.NumGoroutine") (args : Array Value) (w : World) :
    (callFunc f args).run P w = .ok (.enter f args) w := by
  simp [callFunc, run_program, hf, hb, hn]

theorem s_call (hev : CallOk P ev) {f : Nat} {xs : Array Operand} {ts : Array TypeId} {xs' : List Opd} (ho : o.op = .call { callee := .value (.func f), args := xs, argTypes := ts }) (hx : xs.toList.mapM cOpd = some xs')
    (hE : ER m e a) (hR : Rel lo m σ w) (h : oCall f xs' ev lo e σ = .v v σ') : StepsTo P o a lo m σ w v σ' := by
  refine call_to hev (cargs := xs.map a.eval) (args := opds xs' e) ?_ hR (by simpa using opds_VRs hR.pins hE _ _ hx) h
  intro fn c h1 h2 h3
  have := run_callFunc_enter (P := P) h1 h2 h3 (xs.map a.eval) w
  simp [execOp, ho, resolve, Act.eval, Deferred.ofValue, invoke, this]

theorem s_callv (hev : CallOk P ev) {x : Operand} {x' : Opd} {xs : Array Operand} {ts : Array TypeId} {xs' : List Opd} (ho : o.op = .call { callee := .value x, args := xs, argTypes := ts }) (hf : cOpd x = some x') (hx : xs.toList.mapM cOpd = some xs')
    (hE : ER m e a) (hR : Rel lo m σ w) (h : oCallv x' xs' ev lo e σ = .v v σ') : StepsTo P o a lo m σ w v σ' := by
  have hv := opd_VR hR.pins hE hf
  have hxs := opds_VRs hR.pins hE _ _ hx
  have h' : callVal (opds xs' e) ev lo σ (opd x' e) = .v v σ' := h
  unfold callVal at h'
  split at h'
  · rename_i g first cap hb
    rw [hb] at hv
    simp only [VR] at hv
    obtain ⟨A, B, hv, hA, hB⟩ := hv
    rw [appN_eq, appN_eq] at h'
    refine call_to hev (cargs := A ++ xs.map a.eval ++ B) ?_ hR ?_ h'
    · intro fn c h1 h2 h3
      have := run_callFunc_enter (P := P) h1 h2 h3 (A ++ xs.map a.eval ++ B) w
      simp [execOp, ho, resolve, hv, Deferred.ofValue, invoke] at this ⊢
      exact this
    · simp only [Array.toList_append, Array.toList_map, List.append_assoc]
      exact VRs_append hA (VRs_append hxs hB)
  · cases h'

end

end Go.Vm

/- From the compact form back to the operation's own step. -/
namespace Go.Vm
variable [Gl]

section
variable {P : Program} {o : Oper} {a : Act} {e : E} {lo : Nat} {m : Mp} {σ σ' : St} {w : World} {v : V} {ev : Ev}

omit [Gl] in
theorem run_fieldAt {t : TypeId} {f : Nat} {fs : Array Field} {fd : Field} {n : Nat × Nat} (ht : P.underlying t = some (.struct fs)) (hf : fs[f]? = some fd) (hs : sizeB P fd.type = some n) (hn : n.1 ≠ 0) (w : World) (A : Addr) (hA : A.spot = none) :
    (Instr.fieldAt t (.pointer (some A)) f).run P w = .ok (.pointer (some ⟨A.block, A.off + fd.offset, none⟩)) w := by
  obtain ⟨b, k, s⟩ := A
  simp only at hA
  subst hA
  simp [Instr.fieldAt, run_underlying ht, hf, Instr.sureAddr, fieldPlace, run_sizeOf hs, hn, addr_add]

omit [Gl] in
theorem mapM_placesL (w : World) : ∀ (fs : List Field), fs.all (fun f => (P.info? f.type).isSome) = true →
    ∃ ps : List (Nat × Nat), (fs.mapM fun f => do pure (f.offset, ← sizeOf f.type) : Sem (List (Nat × Nat))).run P w = .ok ps w ∧ ∀ i : Nat, ps[i]? = placeS P fs.toArray i
  | [], _ => ⟨[], by simp, by simp [placeS]⟩
  | f :: fs, h => by
    simp only [List.all_cons, Bool.and_eq_true] at h
    obtain ⟨h1, h2⟩ := h
    obtain ⟨x, hx⟩ := Option.isSome_iff_exists.1 h1
    obtain ⟨ps, h3, h4⟩ := mapM_placesL w fs h2
    refine ⟨(f.offset, x.size) :: ps, ?_, ?_⟩
    · rw [List.mapM_cons]
      simp [sizeOf, typeInfo, hx] at h3 ⊢
      rw [h3]
      rfl
    · intro i
      cases i with
      | zero => simp [placeS, hx]
      | succ i => simpa [placeS] using h4 i

omit [Gl] in
theorem mapM_places (fs : Array Field) (hall : fs.toList.all (fun f => (P.info? f.type).isSome) = true) (w : World) :
    ∃ ps : Array (Nat × Nat), (fs.mapM fun f => do pure (f.offset, ← sizeOf f.type) : Sem (Array (Nat × Nat))).run P w = .ok ps w ∧ ∀ i, ps[i]? = placeS P fs i := by
  obtain ⟨ps, h1, h2⟩ := mapM_placesL (P := P) w fs.toList hall
  refine ⟨ps.toArray, ?_, fun i => by simpa using h2 i⟩
  rw [Array.mapM_eq_mapM_toList]
  simp only [map_eq_pure_bind, Sem.run_bind, h1, Result.andThen_ok, Sem.run_pure]

theorem s_build_struct {t : TypeId} {fs : Array Field} {parts : Array (Nat × Operand)} {zero : List V} {r : List (Nat × Nat × Opd)} (ho : o.op = .build t parts) (ht : P.underlying t = some (.struct fs))
    (hall : fs.toList.all (fun f => (P.info? f.type).isSome) = true) (hz : zeroB P t = some zero)
    (hp : parts.toList.mapM (fun p => (placeS P fs p.1).bind fun q => (cOpd p.2).map fun y => (q.1, q.2, y)) = some r)
    (hE : ER m e a) (hR : Rel lo m σ w) (h : oBuild zero r ev lo e σ = .v v σ') : VSim P o a lo m σ w v σ' := by
  refine s_build ho hz hp ?_ hE hR h
  intro z rr _ hfill hzv
  obtain ⟨ps, h1, h2⟩ := mapM_places (P := P) fs hall w
  have : (fun i => ps[i]?) = placeS P fs := funext h2
  simp only [Instr.build, Sem.run_bind, hzv, Result.andThen_ok, run_underlying ht, h1]
  rw [this, Array.toList_map, hfill]
  rfl

theorem s_build_array {t el : TypeId} {n : Nat} {s : Nat × Nat} {parts : Array (Nat × Operand)} {zero : List V} {r : List (Nat × Nat × Opd)} (ho : o.op = .build t parts) (ht : P.underlying t = some (.array n el))
    (hs : sizeB P el = some s) (hz : zeroB P t = some zero)
    (hp : parts.toList.mapM (fun p => (placeA s.1 p.1).bind fun q => (cOpd p.2).map fun y => (q.1, q.2, y)) = some r)
    (hE : ER m e a) (hR : Rel lo m σ w) (h : oBuild zero r ev lo e σ = .v v σ') : VSim P o a lo m σ w v σ' := by
  refine s_build ho hz hp ?_ hE hR h
  intro z rr _ hfill hzv
  simp only [Instr.build, Sem.run_bind, hzv, Result.andThen_ok, run_underlying ht, run_sizeOf hs]
  have : (fun i => some (i * s.1, s.1)) = placeA s.1 := rfl
  rw [this, Array.toList_map, hfill]
  rfl

omit [Gl] in
theorem array1 {α : Type} {x : Array α} {p : α} (h : x.toList = [p]) : x = #[p] := Array.ext' h
omit [Gl] in
theorem array2 {α : Type} {x : Array α} {p q : α} (h : x.toList = [p, q]) : x = #[p, q] := Array.ext' h

theorem op_sim (hev : CallOk P ev) {ao : AOp} (hc : cOp P o = some ao) (hE : ER m e a) (hR : Rel lo m σ w) (h : evOp ao ev lo e σ = .v v σ') : StepsTo P o a lo m σ w v σ' := by
  unfold cOp at hc
  split at hc
  all_goals rename_i hop
  · rename_i x
    simp only [Option.bind_eq_bind, Option.bind_eq_some_iff, Option.pure_def, Option.some.injEq] at hc
    obtain ⟨x', h1, rfl⟩ := hc
    exact (s_mov (ev := ev) (.inl hop) h1 hE hR h).to
  · rename_i x
    simp only [Option.bind_eq_bind, Option.bind_eq_some_iff, Option.pure_def, Option.some.injEq] at hc
    obtain ⟨x', h1, rfl⟩ := hc
    exact (s_mov (ev := ev) (.inr hop) h1 hE hR h).to
  · rename_i c x y
    simp only [Option.bind_eq_bind, Option.bind_eq_some_iff, Option.pure_def, Option.some.injEq] at hc
    obtain ⟨c', h1, x', h2, y', h3, rfl⟩ := hc
    exact (s_pick (ev := ev) hop h1 h2 h3 hE hR h).to
  · simp only [Option.bind_eq_bind, Option.bind_eq_some_iff, Option.pure_def, Option.some.injEq] at hc
    obtain ⟨z, h1, rfl⟩ := hc
    exact (s_alloc (ev := ev) (e := e) hop h1 hR h).to
  · simp only [Option.bind_eq_bind, Option.bind_eq_some_iff, Option.pure_def, Option.some.injEq] at hc
    obtain ⟨n, h1, x', h2, rfl⟩ := hc
    exact (s_box (ev := ev) hop h2 hE hR h).to
  · -- build
    split at hc
    · rename_i hu
      split at hc
      · rename_i hall
        simp only [Option.bind_eq_some_iff, Option.map_eq_some_iff] at hc
        obtain ⟨ps, h1, z, h2, rfl⟩ := hc
        exact (s_build_struct (ev := ev) hop hu hall h2 h1 hE hR h).to
      · cases hc
    · rename_i hu
      simp only [Option.bind_eq_bind, Option.bind_eq_some_iff, Option.pure_def, Option.some.injEq] at hc
      obtain ⟨n, h1, ps, h2, z, h3, rfl⟩ := hc
      exact (s_build_array (ev := ev) hop hu h1 h3 h2 hE hR h).to
    · cases hc
  · -- buildSlice
    split at hc
    · rename_i hu
      simp only [Option.bind_eq_bind, Option.bind_eq_some_iff, Option.pure_def] at hc
      obtain ⟨n, h1, z, h2, ps, h3, hc⟩ := hc
      split at hc
      · cases hc
      · rename_i hsm
        cases hc
        exact (s_bslice (ev := ev) hop hu h1 h2 h3 hsm hE hR h).to
    · cases hc
  · simp only [Option.bind_eq_bind, Option.bind_eq_some_iff, Option.pure_def, Option.some.injEq] at hc
    obtain ⟨b, h1, n, h2, x', h3, rfl⟩ := hc
    exact (s_load (ev := ev) hop h1 h2 h3 hE hR h).to
  · simp only [Option.bind_eq_bind, Option.bind_eq_some_iff, Option.pure_def, Option.some.injEq] at hc
    obtain ⟨n, h1, x', h2, y', h3, rfl⟩ := hc
    exact (s_store (ev := ev) hop h1 h2 h3 hE hR h).to
  · simp only [Option.bind_eq_bind, Option.bind_eq_some_iff, Option.pure_def, Option.some.injEq] at hc
    obtain ⟨x', h1, rfl⟩ := hc
    exact (s_nilck (ev := ev) hop h1 hE hR h).to
  · -- binOp
    split at hc
    · split at hc
      · simp only [Option.bind_eq_bind, Option.bind_eq_some_iff, Option.pure_def, Option.some.injEq] at hc
        obtain ⟨x', h1, y', h2, rfl⟩ := hc
        exact (s_bin (ev := ev) hop h1 h2 hE hR h).to
      · simp only [Option.bind_eq_bind, Option.bind_eq_some_iff, Option.pure_def, Option.some.injEq] at hc
        obtain ⟨x', h1, y', h2, rfl⟩ := hc
        exact (s_bin (ev := ev) hop h1 h2 hE hR h).to
      · simp only [Option.bind_eq_bind, Option.bind_eq_some_iff] at hc
        obtain ⟨k, hk, hc⟩ := hc
        split at hc
        · split at hc
          · rename_i hcon
            simp only [Option.bind_eq_some_iff, Option.pure_def, Option.some.injEq] at hc
            obtain ⟨x', h1, y', h2, rfl⟩ := hc
            exact (s_eq (ev := ev) (neg := false) hop hk (fun _ => by simpa using hcon) h1 h2 hE hR h).to
          · cases hc
        · rename_i hnk
          simp only [Option.bind_eq_some_iff, Option.pure_def, Option.some.injEq] at hc
          obtain ⟨x', h1, y', h2, rfl⟩ := hc
          exact (s_eq (ev := ev) (neg := false) hop hk (fun hk => absurd hk hnk) h1 h2 hE hR h).to
    · split at hc
      · simp only [Option.bind_eq_bind, Option.bind_eq_some_iff, Option.pure_def, Option.some.injEq] at hc
        obtain ⟨x', h1, y', h2, rfl⟩ := hc
        exact (s_bin (ev := ev) hop h1 h2 hE hR h).to
      · simp only [Option.bind_eq_bind, Option.bind_eq_some_iff, Option.pure_def, Option.some.injEq] at hc
        obtain ⟨x', h1, y', h2, rfl⟩ := hc
        exact (s_bin (ev := ev) hop h1 h2 hE hR h).to
      · simp only [Option.bind_eq_bind, Option.bind_eq_some_iff] at hc
        obtain ⟨k, hk, hc⟩ := hc
        split at hc
        · split at hc
          · rename_i hcon
            simp only [Option.bind_eq_some_iff, Option.pure_def, Option.some.injEq] at hc
            obtain ⟨x', h1, y', h2, rfl⟩ := hc
            exact (s_eq (ev := ev) (neg := true) hop hk (fun _ => by simpa using hcon) h1 h2 hE hR h).to
          · cases hc
        · rename_i hnk
          simp only [Option.bind_eq_some_iff, Option.pure_def, Option.some.injEq] at hc
          obtain ⟨x', h1, y', h2, rfl⟩ := hc
          exact (s_eq (ev := ev) (neg := true) hop hk (fun hk => absurd hk hnk) h1 h2 hE hR h).to
    · simp only [Option.bind_eq_bind, Option.bind_eq_some_iff, Option.pure_def, Option.some.injEq] at hc
      obtain ⟨x', h1, y', h2, rfl⟩ := hc
      exact (s_bin (ev := ev) hop h1 h2 hE hR h).to
  · simp only [Option.bind_eq_bind, Option.bind_eq_some_iff, Option.pure_def, Option.some.injEq] at hc
    obtain ⟨x', h1, rfl⟩ := hc
    exact (s_un (ev := ev) hop h1 hE hR h).to
  · -- convert
    split at hc
    · rename_i k1 k2 hs hd
      simp only [Option.bind_eq_bind, Option.bind_eq_some_iff, Option.pure_def, Option.some.injEq] at hc
      obtain ⟨x', h1, rfl⟩ := hc
      exact (s_toInt (ev := ev) hop hs hd h1 hE hR h).to
    · rename_i hs hd
      simp only [Option.bind_eq_bind, Option.bind_eq_some_iff, Option.pure_def, Option.some.injEq] at hc
      obtain ⟨x', h1, rfl⟩ := hc
      exact (s_strstr (ev := ev) hop hs hd h1 hE hR h).to
    · rename_i hs hd
      split at hc
      · rename_i hel
        simp only [Option.bind_eq_bind, Option.bind_eq_some_iff, Option.pure_def, Option.some.injEq] at hc
        obtain ⟨x', h1, rfl⟩ := hc
        exact (s_bytesOf (ev := ev) hop hs hd hel h1 hE hR h).to
      · cases hc
    · rename_i hs hd
      split at hc
      · rename_i hel
        simp only [Option.bind_eq_bind, Option.bind_eq_some_iff, Option.pure_def, Option.some.injEq] at hc
        obtain ⟨x', h1, rfl⟩ := hc
        exact (s_strOf (ev := ev) hop hs hd hel h1 hE hR h).to
      · cases hc
    · cases hc
  · -- makeInterface
    split at hc
    · cases hc
    · rename_i d hni hu
      simp only [Option.bind_eq_bind, Option.bind_eq_some_iff, Option.pure_def, Option.some.injEq] at hc
      obtain ⟨x', h1, rfl⟩ := hc
      exact (s_iface (ev := ev) hop hu (fun ms hd => by subst hd; exact hni ms rfl) h1 hE hR h).to
    · cases hc
  · -- makeFunc
    split at hc
    · simp only [Option.bind_eq_bind, Option.bind_eq_some_iff, Option.pure_def, Option.some.injEq] at hc
      obtain ⟨fs, h1, cs, h2, rfl⟩ := hc
      exact (s_mkfn (ev := ev) hop h1 h2 hE hR h).to
    · cases hc
  · -- makeMap
    split at hc
    · cases hc
      exact (s_mkmap (ev := ev) (e := e) hop hR h).to
    · cases hc
  · -- makeSlice
    split at hc
    · rename_i hu
      simp only [Option.bind_eq_bind, Option.bind_eq_some_iff, Option.pure_def, Option.some.injEq] at hc
      obtain ⟨n, h1, z, h2, l', h3, c', h4, rfl⟩ := hc
      exact (s_mkslice (ev := ev) hop hu h1 h2 h3 h4 hE hR h).to
    · cases hc
  · -- slice
    split at hc
    · rename_i hu
      split at hc
      · cases hc
      · rename_i hmx
        simp only [Option.bind_eq_bind, Option.bind_eq_some_iff, Option.pure_def, Option.some.injEq] at hc
        obtain ⟨x', h1, l', h2, r', h3, rfl⟩ := hc
        have hmx' := Option.not_isSome_iff_eq_none.1 hmx
        rw [hmx'] at hop
        exact (s_slstr (ev := ev) hop hu h1 h2 h3 hE hR h).to
    · rename_i hu
      simp only [Option.bind_eq_bind, Option.bind_eq_some_iff, Option.pure_def, Option.some.injEq] at hc
      obtain ⟨n, h0, x', h1, l', h2, r', h3, q', h4, rfl⟩ := hc
      exact (s_slsl (ev := ev) hop hu h0 h1 h2 h3 h4 hE hR h).to
    · rename_i hu
      simp only [Option.bind_eq_bind, Option.bind_eq_some_iff, Option.pure_def, Option.some.injEq] at hc
      obtain ⟨n, h0, x', h1, l', h2, r', h3, q', h4, rfl⟩ := hc
      exact (s_slarr (ev := ev) hop (.inl hu) h0 h1 h2 h3 h4 hE hR h).to
    · rename_i hu
      split at hc
      · rename_i hu2
        simp only [Option.bind_eq_bind, Option.bind_eq_some_iff, Option.pure_def, Option.some.injEq] at hc
        obtain ⟨n, h0, x', h1, l', h2, r', h3, q', h4, rfl⟩ := hc
        exact (s_slarr (ev := ev) hop (.inr ⟨_, hu, hu2⟩) h0 h1 h2 h3 h4 hE hR h).to
      · cases hc
    · cases hc
  · -- fieldAddr
    split at hc
    · rename_i hu
      split at hc
      · rename_i hf
        split at hc
        · rename_i hs
          split at hc
          · cases hc
          · rename_i hn
            simp only [Option.bind_eq_bind, Option.bind_eq_some_iff, Option.pure_def, Option.some.injEq] at hc
            obtain ⟨x', h1, rfl⟩ := hc
            exact (s_faddr (ev := ev) hop hu hf h1 hE hR (run_fieldAt hu hf hs hn w) h).to
        · cases hc
      · cases hc
    · cases hc
  · -- field
    split at hc
    · rename_i hu
      simp only [Option.bind_eq_bind, Option.bind_eq_some_iff, Option.pure_def, Option.some.injEq] at hc
      obtain ⟨fd, h0, b, h1, n, h2, x', h3, rfl⟩ := hc
      exact (s_field (ev := ev) hop hu h0 h1 h2 h3 hE hR h).to
    · cases hc
  · -- indexAddr
    split at hc
    · rename_i hu
      simp only [Option.bind_eq_bind, Option.bind_eq_some_iff, Option.pure_def, Option.some.injEq] at hc
      obtain ⟨n, h1, x', h2, y', h3, rfl⟩ := hc
      exact (s_iaddr (ev := ev) hop hu h1 h2 h3 hE hR h).to
    · rename_i hu
      simp only [Option.bind_eq_bind, Option.bind_eq_some_iff, Option.pure_def, Option.some.injEq] at hc
      obtain ⟨n, h1, x', h2, y', h3, rfl⟩ := hc
      exact (s_iaddra (ev := ev) hop hu h1 h2 h3 hE hR h).to
    · cases hc
  · -- index
    split at hc
    · rename_i hu
      simp only [Option.bind_eq_bind, Option.bind_eq_some_iff, Option.pure_def, Option.some.injEq] at hc
      obtain ⟨x', h2, y', h3, rfl⟩ := hc
      exact (s_idxs (ev := ev) hop hu h2 h3 hE hR h).to
    · rename_i hu
      simp only [Option.bind_eq_bind, Option.bind_eq_some_iff, Option.pure_def, Option.some.injEq] at hc
      obtain ⟨n, h1, b, h0, x', h2, y', h3, rfl⟩ := hc
      exact (s_idxa (ev := ev) hop hu h0 h1 h2 h3 hE hR h).to
    · cases hc
  · -- lookup
    split at hc
    · rename_i hu
      split at hc
      · rename_i hi
        split at hc
        · rename_i hz
          simp only [Option.bind_eq_bind, Option.bind_eq_some_iff, Option.pure_def, Option.some.injEq] at hc
          obtain ⟨kk, h1, z, h2, x', h3, y', h4, rfl⟩ := hc
          exact (s_lookup (ev := ev) hop hu hi hz h1 h2 h3 h4 hE hR h).to
        · cases hc
      · cases hc
    · cases hc
  · split at hc
    · rename_i hu
      simp only [Option.bind_eq_bind, Option.bind_eq_some_iff, Option.pure_def, Option.some.injEq] at hc
      obtain ⟨kk, h1, x', h2, y', h3, z', h4, rfl⟩ := hc
      exact (s_mapset (ev := ev) (.inl hop) hu h1 h2 h3 h4 hE hR h).to
    · cases hc
  · split at hc
    · rename_i hu
      simp only [Option.bind_eq_bind, Option.bind_eq_some_iff, Option.pure_def, Option.some.injEq] at hc
      obtain ⟨kk, h1, x', h2, y', h3, z', h4, rfl⟩ := hc
      exact (s_mapset (ev := ev) (.inr hop) hu h1 h2 h3 h4 hE hR h).to
    · cases hc
  · simp only [Option.bind_eq_bind, Option.bind_eq_some_iff, Option.pure_def, Option.some.injEq] at hc
    obtain ⟨x', h1, rfl⟩ := hc
    exact (s_extr (ev := ev) hop h1 hE hR h).to
  · -- call
    rename_i c
    obtain ⟨callee, args, ats⟩ := c
    split at hc
    · rename_i f hcal
      simp only at hcal
      subst hcal
      simp only [Option.bind_eq_bind, Option.bind_eq_some_iff, Option.pure_def, Option.some.injEq] at hc
      obtain ⟨xs, h1, rfl⟩ := hc
      exact s_call hev hop h1 hE hR h
    · rename_i x hnf hcal
      simp only at hcal
      subst hcal
      simp only [Option.bind_eq_bind, Option.bind_eq_some_iff, Option.pure_def, Option.some.injEq] at hc
      obtain ⟨x', h1, xs, h2, rfl⟩ := hc
      exact s_callv hev hop h1 h2 hE hR h
    · cases hc
    · rename_i b hcal
      simp only at hcal
      subst hcal
      split at hc
      · rename_i ha ht
        have ha' := array2 ha
        have ht' := array2 ht
        simp only at ha' ht'
        subst ha' ht'
        split at hc
        · rename_i hts htx
          simp only [Option.bind_eq_bind, Option.bind_eq_some_iff, Option.pure_def, Option.some.injEq] at hc
          obtain ⟨n, h1, z, h2, x', h3, y', h4, rfl⟩ := hc
          exact (s_append (ev := ev) hop hts htx (.inl ⟨_, rfl⟩) h1 h2 h3 h4 hE hR h).to
        · rename_i hts htx
          simp only [Option.bind_eq_bind, Option.bind_eq_some_iff] at hc
          obtain ⟨n, h1, z, h2, hc⟩ := hc
          split at hc
          · simp only [Option.bind_eq_some_iff, Option.pure_def, Option.some.injEq] at hc
            obtain ⟨x', h3, y', h4, rfl⟩ := hc
            exact (s_append (ev := ev) hop hts htx (.inr rfl) h1 h2 h3 h4 hE hR h).to
          · cases hc
        · cases hc
      · rename_i ha ht
        have ha' := array1 ha
        have ht' := array1 ht
        simp only at ha' ht'
        subst ha' ht'
        split at hc
        · rename_i hu
          simp only [Option.bind_eq_bind, Option.bind_eq_some_iff, Option.pure_def, Option.some.injEq] at hc
          obtain ⟨x', h1, rfl⟩ := hc
          exact (s_len (ev := ev) hop (by rfl) hu (.inl ⟨rfl, rfl⟩) h1 hE hR h).to
        · rename_i hu
          simp only [Option.bind_eq_bind, Option.bind_eq_some_iff, Option.pure_def, Option.some.injEq] at hc
          obtain ⟨x', h1, rfl⟩ := hc
          exact (s_len (ev := ev) hop (by rfl) hu (.inr (.inl ⟨rfl, _, rfl⟩)) h1 hE hR h).to
        · rename_i hu
          simp only [Option.bind_eq_bind, Option.bind_eq_some_iff, Option.pure_def, Option.some.injEq] at hc
          obtain ⟨x', h1, rfl⟩ := hc
          exact (s_len (ev := ev) hop (by rfl) hu (.inr (.inr ⟨rfl, _, _, rfl⟩)) h1 hE hR h).to
        · rename_i n _ hu
          cases hc
          cases h
          refine (VSim.same hR (cv := .int .i64 (n : Int)) ?_ (by show VR m (.int .i64 _) _; simp only [VR])).to
          simp [execOp, hop, resolve, invoke, builtin, Builtin.len_, run_underlying hu, goInt]
        · rename_i hu
          split at hc
          · rename_i n _ hu2
            cases hc
            cases h
            refine (VSim.same hR (cv := .int .i64 (n : Int)) ?_ (by show VR m (.int .i64 _) _; simp only [VR])).to
            simp [execOp, hop, resolve, invoke, builtin, Builtin.len_, run_underlying hu, run_underlying hu2, goInt]
          · cases hc
        · cases hc
      · rename_i ha ht
        have ha' := array2 ha
        have ht' := array2 ht
        simp only at ha' ht'
        subst ha' ht'
        split at hc
        · rename_i hu
          simp only [Option.bind_eq_bind, Option.bind_eq_some_iff, Option.pure_def, Option.some.injEq] at hc
          obtain ⟨n, h1, x', h2, y', h3, rfl⟩ := hc
          exact (s_copy (ev := ev) hop hu h1 h2 h3 hE hR h).to
        · cases hc
      · rename_i ha
        have ha' := array2 ha
        simp only at ha'
        subst ha'
        simp only [Option.bind_eq_bind, Option.bind_eq_some_iff, Option.pure_def, Option.some.injEq] at hc
        obtain ⟨x', h1, y', h2, rfl⟩ := hc
        exact (s_minmax (ev := ev) (mx := false) hop h1 h2 hE hR h).to
      · rename_i ha
        have ha' := array2 ha
        simp only at ha'
        subst ha'
        simp only [Option.bind_eq_bind, Option.bind_eq_some_iff, Option.pure_def, Option.some.injEq] at hc
        obtain ⟨x', h1, y', h2, rfl⟩ := hc
        exact (s_minmax (ev := ev) (mx := true) hop h1 h2 hE hR h).to
      · rename_i ha ht
        have ha' := array1 ha
        have ht' := array1 ht
        simp only at ha' ht'
        subst ha' ht'
        split at hc
        · rename_i hu
          simp only [Option.bind_eq_bind, Option.bind_eq_some_iff, Option.pure_def, Option.some.injEq] at hc
          obtain ⟨z, h1, x', h2, rfl⟩ := hc
          exact (s_clear (ev := ev) hop hu h1 h2 hE hR h).to
        · cases hc
      · cases hc
  · -- panic
    simp only [Option.bind_eq_bind, Option.bind_eq_some_iff, Option.pure_def, Option.some.injEq] at hc
    obtain ⟨x', h1, rfl⟩ := hc
    have h' : panicV σ (opd x' e) = .v v σ' := h
    unfold panicV at h'
    split at h' <;> cases h'
  · cases hc

end

end Go.Vm

/- Code in text order, loops, functions. -/
namespace Go.Vm
variable [Gl]

/-- The slots and the memory read as the model's, and what lies between is kept. -/
def Is (n lo : Nat) (m : Mp) (σ : St) (w : World) (e' : E) (σ' : St) (a' : Act) (w' : World) : Prop :=
  a'.tmps.size = n ∧ a'.defers = [] ∧ ∃ m', ER m' e' a' ∧ Rel lo m' σ' w' ∧ Ext lo m σ w m' σ' w'

def Leads (n lo : Nat) (m : Mp) (σ : St) (w : World) : RC → Exit → Act → World → Prop
  | .norm e' σ', x, a', w' => x = .normal ∧ Is n lo m σ w e' σ' a' w'
  | .exit id e' σ', x, a', w' => x = .exit id ∧ Is n lo m σ w e' σ' a' w'
  | .ret e' σ', x, a', w' => x = .ret ∧ Is n lo m σ w e' σ' a' w'
  | .no, _, _, _ => False
  | .pan .., _, _, _ => False

def Good : RC → Prop
  | .no => False
  | .pan .. => False
  | _ => True

theorem Is.back {n lo : Nat} {m0 m : Mp} {σ0 σ : St} {w0 w : World} (hx : Ext lo m0 σ0 w0 m σ w) {e' : E} {σ' : St} {a' : Act} {w' : World} (h : Is n lo m σ w e' σ' a' w') : Is n lo m0 σ0 w0 e' σ' a' w' := by
  obtain ⟨h1, h2, m', h3, h4, h5⟩ := h
  exact ⟨h1, h2, m', h3, h4, hx.trans h5⟩

theorem Leads.back {n lo : Nat} {m0 m : Mp} {σ0 σ : St} {w0 w : World} (hx : Ext lo m0 σ0 w0 m σ w) {rc : RC} {x : Exit} {a' : Act} {w' : World} (h : Leads n lo m σ w rc x a' w') : Leads n lo m0 σ0 w0 rc x a' w' := by
  cases rc <;> first | exact h.elim | exact ⟨h.1, h.2.back hx⟩

omit [Gl] in
theorem VR_bool_inv {m : Mp} {v : V} {b : Bool} (h : VR m v (.bool b)) : v = .bool b := by
  cases v <;> simp [VR] at h
  rw [h]

omit [Gl] in
theorem isB_false_of {m : Mp} {v : V} {cv : Value} (h : VR m v cv) (hn : ∀ b, cv ≠ .bool b) (want : Bool) : isB want v = false := by
  cases v <;> first | rfl | (simp only [VR] at h; exact absurd h (hn _))

omit [Gl] in
theorem wanted_eq' {ops : Array Oper} {o : Oper} {g : Option (Nat × Bool)} (hg : cGuard ops o = some g) {e : E} {a : Act} (hE : ∀ d b, g = some (d, b) → ∃ m, VR m (e.get d) (a.tmps.getD d undef)) : wanted g e = Region.wanted o (yielded ops a.tmps) := by
  unfold cGuard at hg
  unfold Region.wanted
  split at hg
  · rename_i hn
    cases hg
    rw [hn]; rfl
  · rename_i j b hn
    rw [hn]
    split at hg
    · rename_i d hd
      split at hg
      · rename_i hlt
        cases hg
        show isB b (e.get d) = (yielded ops a.tmps j == some b)
        obtain ⟨m, h1⟩ := hE d b rfl
        unfold yielded
        rw [hd]
        simp only [Option.bind_some]
        by_cases hs : d < a.tmps.size
        · have h2 : a.tmps.getD d undef = a.tmps[d] := by simp [Array.getD, hs]
          rw [h2] at h1
          rw [Array.getElem?_eq_getElem hs]
          cases hv : a.tmps[d] with
          | bool x =>
            rw [hv] at h1
            rw [VR_bool_inv h1]
            show (cond x b (!b)) = (some x == some b)
            cases x <;> cases b <;> rfl
          | _ =>
            rw [hv] at h1
            rw [isB_false_of h1 (by intro b; simp)]
            rfl
        · have h2 : a.tmps.getD d undef = undef := by simp [Array.getD, hs]
          rw [h2] at h1
          rw [isB_false_of h1 (by intro b; simp [undef])]
          rw [Array.getElem?_eq_none (Nat.le_of_not_lt hs)]
          rfl
      · cases hg
    · cases hg

omit [Gl] in
theorem cGuard_lt {ops : Array Oper} {o : Oper} {d : Nat} {b : Bool} (hg : cGuard ops o = some (some (d, b))) : d < 512 := by
  unfold cGuard at hg
  split at hg
  · cases hg
  · split at hg
    · split at hg
      · cases hg; assumption
      · cases hg
    · cases hg

omit [Gl] in
theorem wanted_eq {ops : Array Oper} {o : Oper} {g : Option (Nat × Bool)} (hg : cGuard ops o = some g) {m : Mp} {e : E} {a : Act} (hE : ER m e a) : wanted g e = Region.wanted o (yielded ops a.tmps) :=
  wanted_eq' hg fun d _b h => ⟨m, hE d (cGuard_lt (h ▸ hg))⟩

section
variable {P : Program} {lo nt : Nat} {ev : Ev}

omit [Gl] in
theorem okDst_lt {nt : Nat} {d : Nat} (h : okDst nt (some d) = true) : d < nt := by
  simpa [okDst, Nat.blt_eq] using h

omit [Gl] in
theorem Act.put_size (a : Act) (d : Option Tmp) (v : Value) : (a.put d v).tmps.size = a.tmps.size := by
  cases d <;> simp [Act.put]
omit [Gl] in
theorem Act.put_defers' (a : Act) (d : Option Tmp) (v : Value) : (a.put d v).defers = a.defers := by
  cases d <;> rfl

omit [Gl] in
theorem ER.putE {m : Mp} {e : E} {a : Act} (h : ER m e a) (hs : a.tmps.size = nt) (hn : nt ≤ 512) {d : Option Nat} (hd : okDst nt d = true) {v : V} {cv : Value} (hv : VR m v cv) : ER m (putE d v e) (a.put d cv) := by
  cases d with
  | none => exact h
  | some d => exact h.put (by rw [hs]; exact okDst_lt hd) (by omega) hv

theorem cOper_spec {ops : Array Oper} {o : Oper} : (∃ g, okDst nt o.dst = true ∧ cGuard ops o = some g ∧ cOper P nt ops o = { dst := o.dst, op := (cOp P o).getD .bad, guard := g }) ∨
    cOper P nt ops o = { dst := none, op := .bad, guard := none } := by
  unfold cOper
  split
  · rename_i g h1 h2
    exact .inl ⟨g, h1, h2, rfl⟩
  · exact .inr rfl

/-- One operation's step, wherever the calls are known from. -/
def OpR (P : Program) (lo : Nat) (op : AOp) (e : E) (σ : St) (v : V) (σ' : St) : Prop := ∃ ev, CallOk P ev ∧ evOp op ev lo e σ = .v v σ'

/-- Operations one after the other. -/
def OpsR (P : Program) (lo : Nat) : List AOper → E → St → E → St → Prop
  | [], e, σ, e', σ' => e' = e ∧ σ' = σ
  | o :: l, e, σ, e', σ' => (wanted o.guard e = true ∧ ∃ v σ1, OpR P lo o.op e σ v σ1 ∧ OpsR P lo l (putE o.dst v e) σ1 e' σ') ∨
      (wanted o.guard e = false ∧ OpsR P lo l (putE o.dst undefV e) σ e' σ')

def DrawsR (P : Program) (lo : Nat) : List (Bool × AOper) → E → St → E → St → Prop
  | [], e, σ, e', σ' => e' = e ∧ σ' = σ
  | o :: l, e, σ, e', σ' => (wanted o.2.guard e = true ∧ ∃ v σ1, OpR P (cond o.1 lo σ.next) o.2.op e σ v σ1 ∧ DrawsR P lo l (putE o.2.dst v e) σ1 e' σ') ∨
      (wanted o.2.guard e = false ∧ DrawsR P lo l (putE o.2.dst undefV e) σ e' σ')

/-- Where code leads. -/
inductive CodeR (P : Program) (lo : Nat) : AC → E → St → RC → Prop where
  | skip {e σ} : CodeR P lo .skip e σ (.norm e σ)
  | label {l e σ} : CodeR P lo (.label l) e σ (.norm e σ)
  | reg {ops e σ e' σ'} : OpsR P lo ops e σ e' σ' → CodeR P lo (.reg ops) e σ (.norm e' σ')
  | dreg {ops e σ e' σ'} : DrawsR P lo ops e σ e' σ' → CodeR P lo (.dreg ops) e σ (.norm e' σ')
  | seqN {a b e σ e' σ' rc} : CodeR P lo a e σ (.norm e' σ') → CodeR P lo b e' σ' rc → CodeR P lo (.seq a b) e σ rc
  | seqX {a b e σ id e' σ'} : CodeR P lo a e σ (.exit id e' σ') → CodeR P lo (.seq a b) e σ (.exit id e' σ')
  | seqR {a b e σ e' σ'} : CodeR P lo a e σ (.ret e' σ') → CodeR P lo (.seq a b) e σ (.ret e' σ')
  | condT {c a b e σ rc} : opd c e = .bool true → CodeR P lo a e σ rc → CodeR P lo (.cond c a b) e σ rc
  | condF {c a b e σ rc} : opd c e = .bool false → CodeR P lo b e σ rc → CodeR P lo (.cond c a b) e σ rc
  | blockN {id b e σ e' σ'} : CodeR P lo b e σ (.norm e' σ') → CodeR P lo (.block id b) e σ (.norm e' σ')
  | blockE {id b e σ e' σ'} : CodeR P lo b e σ (.exit id e' σ') → CodeR P lo (.block id b) e σ (.norm e' σ')
  | blockX {id id' b e σ e' σ'} : id' ≠ id → CodeR P lo b e σ (.exit id' e' σ') → CodeR P lo (.block id b) e σ (.exit id' e' σ')
  | blockR {id b e σ e' σ'} : CodeR P lo b e σ (.ret e' σ') → CodeR P lo (.block id b) e σ (.ret e' σ')
  | loopN {b e σ e' σ' rc} : CodeR P lo b e σ (.norm e' σ') → CodeR P lo (.loop b) e' σ' rc → CodeR P lo (.loop b) e σ rc
  | loopX {b e σ id e' σ'} : CodeR P lo b e σ (.exit id e' σ') → CodeR P lo (.loop b) e σ (.exit id e' σ')
  | loopR {b e σ e' σ'} : CodeR P lo b e σ (.ret e' σ') → CodeR P lo (.loop b) e σ (.ret e' σ')
  | exit {id e σ} : CodeR P lo (.exit id) e σ (.exit id e σ)
  | ret {e σ} : CodeR P lo .ret e σ (.ret e σ)

theorem ops_sim (hn : nt ≤ 512) {ops : Array Oper} {e' : E} {σ' : St} {m0 : Mp} {σ0 : St} {w0 : World} : ∀ (l : List Oper) (e : E) (σ : St) (m : Mp) (a : Act) (w : World),
    OpsR P lo (l.map (cOper P nt ops)) e σ e' σ' → ER m e a → Rel lo m σ w → Ext lo m0 σ0 w0 m σ w → a.tmps.size = nt → a.defers = [] → wpList P ops (Leads nt lo m0 σ0 w0 (.norm e' σ')) l a w
  | [], e, σ, m, a, w, h, hE, hR, hX, hs, hd => by
    obtain ⟨rfl, rfl⟩ := h
    exact ⟨rfl, hs, hd, m, hE, hR, hX⟩
  | o :: l, e, σ, m, a, w, h, hE, hR, hX, hs, hd => by
    rw [List.map_cons] at h
    unfold OpsR at h
    rcases cOper_spec (P := P) (nt := nt) (ops := ops) (o := o) with ⟨g, hdst, hgd, hc⟩ | hc
    · rw [hc] at h
      simp only at h
      have hw := wanted_eq hgd hE
      unfold wpList
      rcases h with ⟨hwt, v, σ1, ⟨ev, hev, hr⟩, hrest⟩ | ⟨hwt, hrest⟩
      · rw [if_pos (by rw [← hw, hwt])]
        left
        cases hco : cOp P o with
        | none => rw [hco] at hr; cases hr
        | some ao =>
          rw [hco] at hr
          refine RunsTo.wp (op_sim hev hco hE hR (hr : evOp ao ev lo e σ = .v v σ1)) ?_
          intro cv m' w' hv hR' hX'
          exact ops_sim hn l _ _ m' _ w' hrest (ER.putE (hE.mono hX'.le) hs hn hdst hv) hR' (hX.trans hX') (by rw [Act.put_size]; exact hs) (by rw [Act.put_defers']; exact hd)
      · rw [if_neg (by rw [← hw, hwt]; simp)]
        exact ops_sim hn l _ _ m _ w hrest (ER.putE hE hs hn hdst (VR_undef m)) hR hX (by rw [Act.put_size]; exact hs) (by rw [Act.put_defers']; exact hd)
    · rw [hc] at h
      rcases h with ⟨_, v, σ1, ⟨ev, _, hr⟩, _⟩ | ⟨hwt, _⟩
      · cases hr
      · cases hwt

/-- A region that draws its order is sound. -/
def DrawOk (P : Program) : Prop :=
  ∀ (nt lo id : Nat) (ops : Array Oper) (e : E) (σ : St) (e' : E) (σ' : St) (m : Mp) (a : Act) (w : World), nt ≤ 512 → DrawsR P lo (cDraw P nt ops) e σ e' σ' → ER m e a → Rel lo m σ w → a.tmps.size = nt → a.defers = [] →
    (Code.region id ops true).wp P (Leads nt lo m σ w (.norm e' σ')) a w

/-- What a piece of code's soundness is. -/
def CodeOk (P : Program) (nt lo : Nat) (c : Code) : Prop :=
  ∀ (e : E) (σ : St) (m : Mp) (a : Act) (w : World) (rc : RC), CodeR P lo (cCode P nt c) e σ rc → ER m e a → Rel lo m σ w → a.tmps.size = nt → a.defers = [] →
    c.wp P (Leads nt lo m σ w rc) a w

omit [Gl] in
theorem rounds_mono {c : Code} {Q Q' : Exit → Act → World → Prop} (hq : ∀ e a w, Q e a w → Q' e a w) : ∀ n a w, Code.rounds P c Q n a w → Code.rounds P c Q' n a w
  | 0, _, _, h => h.elim
  | n + 1, a, w, h => by
    rw [rounds_succ] at h ⊢
    refine Code.wp_mono ?_ h
    intro e a w hx
    cases e
    case normal => exact rounds_mono hq n _ _ hx
    all_goals exact hq _ _ _ hx

theorem loop_sim {b : Code} (ih : CodeOk P nt lo b) {ac : AC} {e : E} {σ : St} {rc : RC} (h : CodeR P lo ac e σ rc) : ac = .loop (cCode P nt b) →
    ∃ n, ∀ (m : Mp) (a : Act) (w : World), ER m e a → Rel lo m σ w → a.tmps.size = nt → a.defers = [] → Code.rounds P b (Leads nt lo m σ w rc) n a w := by
  induction h with
  | loopN h1 h2 _ ih2 =>
    intro he
    cases he
    obtain ⟨n, hn⟩ := ih2 rfl
    refine ⟨n + 1, fun m a w hE hR hs hd => ?_⟩
    rw [rounds_succ]
    refine Code.wp_mono ?_ (ih _ _ m a w _ h1 hE hR hs hd)
    rintro x a' w' ⟨rfl, q1, q2, m', q3, q4, q5⟩
    exact rounds_mono (fun _ _ _ q => Leads.back q5 q) _ _ _ (hn m' a' w' q3 q4 q1 q2)
  | loopX h1 _ =>
    intro he
    cases he
    refine ⟨1, fun m a w hE hR hs hd => ?_⟩
    rw [rounds_succ]
    refine Code.wp_mono ?_ (ih _ _ m a w _ h1 hE hR hs hd)
    rintro x a' w' ⟨rfl, q1⟩
    exact ⟨rfl, q1⟩
  | loopR h1 _ =>
    intro he
    cases he
    refine ⟨1, fun m a w hE hR hs hd => ?_⟩
    rw [rounds_succ]
    refine Code.wp_mono ?_ (ih _ _ m a w _ h1 hE hR hs hd)
    rintro x a' w' ⟨rfl, q1⟩
    exact ⟨rfl, q1⟩
  | _ => intro he; cases he

theorem code_sim (hdr : DrawOk P) (hn : nt ≤ 512) : ∀ c : Code, CodeOk P nt lo c
  | .skip => fun e σ m a w rc h hE hR hs hd => by
    change CodeR P lo .skip e σ rc at h
    cases h
    exact wp_skip ⟨rfl, hs, hd, m, hE, hR, Ext.refl _ _ _ _⟩
  | .region id ops false => fun e σ m a w rc h hE hR hs hd => by
    change CodeR P lo (.reg (ops.toList.map (cOper P nt ops))) e σ rc at h
    cases h with
    | reg h => exact wp_region_list (ops_sim hn ops.toList e σ m a w h hE hR (Ext.refl _ _ _ _) hs hd)
  | .region id ops true => fun e σ m a w rc h hE hR hs hd => by
    change CodeR P lo (.dreg (cDraw P nt ops)) e σ rc at h
    cases h with
    | dreg h => exact hdr nt lo id ops e σ _ _ m a w hn h hE hR hs hd
  | .seq x y => fun e σ m a w rc h hE hR hs hd => by
    have ihx := code_sim hdr hn x
    have ihy := code_sim hdr hn y
    change CodeR P lo (.seq (cCode P nt x) (cCode P nt y)) e σ rc at h
    refine wp_seq ?_
    cases h with
    | seqN hb h =>
      refine Code.wp_mono ?_ (ihx e σ m a w _ hb hE hR hs hd)
      rintro x a' w' ⟨rfl, h1, h2, m', h3, h4, h5⟩
      exact Code.wp_mono (fun _ _ _ q => Leads.back h5 q) (ihy _ _ m' a' w' rc h h3 h4 h1 h2)
    | seqX hb =>
      refine Code.wp_mono ?_ (ihx e σ m a w _ hb hE hR hs hd)
      rintro x a' w' ⟨rfl, h1⟩
      exact ⟨rfl, h1⟩
    | seqR hb =>
      refine Code.wp_mono ?_ (ihx e σ m a w _ hb hE hR hs hd)
      rintro x a' w' ⟨rfl, h1⟩
      exact ⟨rfl, h1⟩
  | .cond c x y => fun e σ m a w rc h hE hR hs hd => by
    have ihx := code_sim hdr hn x
    have ihy := code_sim hdr hn y
    unfold cCode at h
    split at h
    · rename_i c' hc
      have hv := opd_VR hR.pins hE hc
      cases h with
      | condT hb h =>
        rw [hb] at hv
        simp only [VR] at hv
        exact wp_cond hv (ihx e σ m a w rc h hE hR hs hd)
      | condF hb h =>
        rw [hb] at hv
        simp only [VR] at hv
        exact wp_cond hv (ihy e σ m a w rc h hE hR hs hd)
    · cases h
  | .block id b => fun e σ m a w rc h hE hR hs hd => by
    have ih := code_sim hdr hn b
    change CodeR P lo (.block id (cCode P nt b)) e σ rc at h
    refine wp_block ?_
    cases h with
    | blockN hb =>
      refine Code.wp_mono ?_ (ih e σ m a w _ hb hE hR hs hd)
      rintro x a' w' ⟨rfl, h1⟩
      exact ⟨rfl, h1⟩
    | blockE hb =>
      refine Code.wp_mono ?_ (ih e σ m a w _ hb hE hR hs hd)
      rintro x a' w' ⟨rfl, h1⟩
      show if id = id then _ else _
      rw [if_pos rfl]
      exact ⟨rfl, h1⟩
    | blockX hid hb =>
      refine Code.wp_mono ?_ (ih e σ m a w _ hb hE hR hs hd)
      rintro x a' w' ⟨rfl, h1⟩
      show if _ = id then _ else _
      rw [if_neg hid]
      exact ⟨rfl, h1⟩
    | blockR hb =>
      refine Code.wp_mono ?_ (ih e σ m a w _ hb hE hR hs hd)
      rintro x a' w' ⟨rfl, h1⟩
      exact ⟨rfl, h1⟩
  | .loop b => fun e σ m a w rc h hE hR hs hd => by
    obtain ⟨n, h1⟩ := loop_sim (code_sim hdr hn b) h rfl
    exact wp_loop_rounds n (h1 m a w hE hR hs hd)
  | .exit id => fun e σ m a w rc h hE hR hs hd => by
    change CodeR P lo (.exit id) e σ rc at h
    cases h
    exact wp_exit ⟨rfl, hs, hd, m, hE, hR, Ext.refl _ _ _ _⟩
  | .label l => fun e σ m a w rc h hE hR hs hd => by
    change CodeR P lo (.label l) e σ rc at h
    cases h
    exact wp_label ⟨rfl, hs, hd, m, hE, hR, Ext.refl _ _ _ _⟩
  | .ret => fun e σ m a w rc h hE hR hs hd => by
    change CodeR P lo .ret e σ rc at h
    cases h
    exact wp_ret ⟨rfl, hs, hd, m, hE, hR, Ext.refl _ _ _ _⟩
  | .rangeFunc .. => fun e σ m a w rc h hE hR hs hd => by change CodeR P lo .bad e σ rc at h; cases h
  | .scope .. => fun e σ m a w rc h hE hR hs hd => by change CodeR P lo .bad e σ rc at h; cases h
  | .goto .. => fun e σ m a w rc h hE hR hs hd => by change CodeR P lo .bad e σ rc at h; cases h
  | .refuse .. => fun e σ m a w rc h hE hR hs hd => by change CodeR P lo .bad e σ rc at h; cases h

/- The evaluator's runs are such. -/
theorem evOps_R (hev : CallOk P ev) {rc : RC} : ∀ (l : List AOper) (e : E) (σ : St), evOps l ev lo e σ = rc → Good rc → ∃ e' σ', rc = .norm e' σ' ∧ OpsR P lo l e σ e' σ'
  | [], e, σ, h, _ => ⟨e, σ, h.symm, rfl, rfl⟩
  | o :: l, e, σ, h, hg => by
    change cond (wanted o.guard e) (thenO o.dst (evOps l) ev lo e (evOp o.op ev lo e σ)) (evOps l ev lo (putE o.dst undefV e) σ) = rc at h
    cases hwt : wanted o.guard e with
    | true =>
      rw [hwt] at h
      cases hr : evOp o.op ev lo e σ with
      | no => rw [hr] at h; have : RC.no = rc := h; subst this; exact hg.elim
      | p v σ' => rw [hr] at h; have : RC.pan v e σ' = rc := h; subst this; exact hg.elim
      | v v σ' =>
        rw [hr] at h
        obtain ⟨e', σ2, h1, h2⟩ := evOps_R hev l (putE o.dst v e) σ' h hg
        exact ⟨e', σ2, h1, .inl ⟨hwt, v, σ', ⟨ev, hev, hr⟩, h2⟩⟩
    | false =>
      rw [hwt] at h
      obtain ⟨e', σ2, h1, h2⟩ := evOps_R hev l (putE o.dst undefV e) σ h hg
      exact ⟨e', σ2, h1, .inr ⟨hwt, h2⟩⟩

theorem evDraws_R (hev : CallOk P ev) {rc : RC} : ∀ (l : List (Bool × AOper)) (e : E) (σ : St), evDraws l ev lo e σ = rc → Good rc → ∃ e' σ', rc = .norm e' σ' ∧ DrawsR P lo l e σ e' σ'
  | [], e, σ, h, _ => ⟨e, σ, h.symm, rfl, rfl⟩
  | o :: l, e, σ, h, hg => by
    change cond (wanted o.2.guard e) (thenD o.2.dst (evDraws l) ev lo e (evOp o.2.op ev (cond o.1 lo σ.next) e σ)) (evDraws l ev lo (putE o.2.dst undefV e) σ) = rc at h
    cases hwt : wanted o.2.guard e with
    | true =>
      rw [hwt] at h
      cases hr : evOp o.2.op ev (cond o.1 lo σ.next) e σ with
      | no => rw [hr] at h; have : RC.no = rc := h; subst this; exact hg.elim
      | p v σ' => rw [hr] at h; have : RC.no = rc := h; subst this; exact hg.elim
      | v v σ' =>
        rw [hr] at h
        obtain ⟨e', σ2, h1, h2⟩ := evDraws_R hev l (putE o.2.dst v e) σ' h hg
        exact ⟨e', σ2, h1, .inl ⟨hwt, v, σ', ⟨ev, hev, hr⟩, h2⟩⟩
    | false =>
      rw [hwt] at h
      obtain ⟨e', σ2, h1, h2⟩ := evDraws_R hev l (putE o.2.dst undefV e) σ h hg
      exact ⟨e', σ2, h1, .inr ⟨hwt, h2⟩⟩

def AgainOk (P : Program) (ev : Ev) : Prop := ∀ (lo : Nat) (c : AC) (e : E) (σ : St) (rc : RC), ev.again lo c e σ = rc → Good rc → CodeR P lo c e σ rc

theorem evCode_R (hev : CallOk P ev) (hag : AgainOk P ev) : ∀ (c : AC) (e : E) (σ : St) (rc : RC), evCode c ev lo e σ = rc → Good rc → CodeR P lo c e σ rc
  | .skip, e, σ, rc, h, _ => by have : RC.norm e σ = rc := h; subst this; exact .skip
  | .label _, e, σ, rc, h, _ => by have : RC.norm e σ = rc := h; subst this; exact .label
  | .reg ops, e, σ, rc, h, hg => by obtain ⟨e', σ', rfl, h1⟩ := evOps_R hev ops e σ h hg; exact .reg h1
  | .dreg ops, e, σ, rc, h, hg => by obtain ⟨e', σ', rfl, h1⟩ := evDraws_R hev ops e σ h hg; exact .dreg h1
  | .exit id, e, σ, rc, h, _ => by have : RC.exit id e σ = rc := h; subst this; exact .exit
  | .ret, e, σ, rc, h, _ => by have : RC.ret e σ = rc := h; subst this; exact .ret
  | .bad, e, σ, rc, h, hg => by have : RC.no = rc := h; subst this; exact hg.elim
  | .seq a b, e, σ, rc, h, hg => by
    change cSeq (evCode a) (evCode b) ev lo e σ = rc at h
    unfold cSeq at h
    cases hb : evCode a ev lo e σ with
    | no => rw [hb] at h; have : RC.no = rc := h; subst this; exact hg.elim
    | pan v e' σ' => rw [hb] at h; have : RC.pan v e' σ' = rc := h; subst this; exact hg.elim
    | norm e' σ' => rw [hb] at h; exact .seqN (evCode_R hev hag a e σ _ hb trivial) (evCode_R hev hag b e' σ' rc h hg)
    | exit id e' σ' => rw [hb] at h; have : RC.exit id e' σ' = rc := h; subst this; exact .seqX (evCode_R hev hag a e σ _ hb trivial)
    | ret e' σ' => rw [hb] at h; have : RC.ret e' σ' = rc := h; subst this; exact .seqR (evCode_R hev hag a e σ _ hb trivial)
  | .cond c a b, e, σ, rc, h, hg => by
    change ifB (evCode a ev lo e σ) (evCode b ev lo e σ) (opd c e) = rc at h
    unfold ifB at h
    split at h
    · rename_i t hb
      cases t with
      | true => exact .condT hb (evCode_R hev hag a e σ rc h hg)
      | false => exact .condF hb (evCode_R hev hag b e σ rc h hg)
    · subst h; exact hg.elim
  | .block id b, e, σ, rc, h, hg => by
    change cBlock id (evCode b) ev lo e σ = rc at h
    unfold cBlock at h
    cases hb : evCode b ev lo e σ with
    | no => rw [hb] at h; have : RC.no = rc := h; subst this; exact hg.elim
    | pan v e' σ' => rw [hb] at h; have : RC.pan v e' σ' = rc := h; subst this; exact hg.elim
    | norm e' σ' => rw [hb] at h; have : RC.norm e' σ' = rc := h; subst this; exact .blockN (evCode_R hev hag b e σ _ hb trivial)
    | ret e' σ' => rw [hb] at h; have : RC.ret e' σ' = rc := h; subst this; exact .blockR (evCode_R hev hag b e σ _ hb trivial)
    | exit id' e' σ' =>
      rw [hb] at h
      change cond (Nat.beq id' id) (RC.norm e' σ') (RC.exit id' e' σ') = rc at h
      by_cases hid : id' = id
      · subst hid
        rw [Nat.beq_refl] at h
        have : RC.norm e' σ' = rc := h
        subst this
        exact .blockE (evCode_R hev hag b e σ _ hb trivial)
      · have h9 : Nat.beq id' id = false := by
          cases h9 : Nat.beq id' id with
          | false => rfl
          | true => exact absurd (Nat.eq_of_beq_eq_true h9) hid
        rw [h9] at h
        have : RC.exit id' e' σ' = rc := h
        subst this
        exact .blockX hid (evCode_R hev hag b e σ _ hb trivial)
  | .loop b, e, σ, rc, h, hg => by
    change cLoop b (evCode b) ev lo e σ = rc at h
    unfold cLoop at h
    cases hb : evCode b ev lo e σ with
    | no => rw [hb] at h; have : RC.no = rc := h; subst this; exact hg.elim
    | pan v e' σ' => rw [hb] at h; have : RC.pan v e' σ' = rc := h; subst this; exact hg.elim
    | norm e' σ' => rw [hb] at h; exact .loopN (evCode_R hev hag b e σ _ hb trivial) (hag lo _ e' σ' rc h hg)
    | exit id e' σ' => rw [hb] at h; have : RC.exit id e' σ' = rc := h; subst this; exact .loopX (evCode_R hev hag b e σ _ hb trivial)
    | ret e' σ' => rw [hb] at h; have : RC.ret e' σ' = rc := h; subst this; exact .loopR (evCode_R hev hag b e σ _ hb trivial)

end

end Go.Vm

/- Functions: arguments, results; within so many calls. -/
namespace Go.Vm
variable [Gl]

section
variable {P : Program} {lo nt : Nat} {ev : Ev}

omit [Gl] in
theorem params_get : ∀ (l : List V) (i : Nat) (e : E) (t : Nat), i + l.length ≤ 512 → t < 512 → (params l i e).get t = if i ≤ t ∧ t < i + l.length then l.getD (t - i) undefV else e.get t
  | [], i, e, t, _, _ => by
    show e.get t = _
    rw [if_neg (by simp)]
  | v :: l, i, e, t, hi, ht => by
    show (params l (i + 1) (e.set i v)).get t = _
    simp only [List.length_cons] at hi ⊢
    rw [params_get l (i + 1) (e.set i v) t (by omega) ht]
    by_cases h1 : i + 1 ≤ t ∧ t < i + 1 + l.length
    · rw [if_pos h1, if_pos (by omega)]
      have : t - i = t - (i + 1) + 1 := by omega
      rw [this]
      simp
    · rw [if_neg h1]
      by_cases h2 : t = i
      · subst h2
        rw [E.get_set, if_pos (by omega)]
        simp
      · rw [E.get_set_ne e v ht (by omega) h2, if_neg (by omega)]

omit [Gl] in
theorem E.nil_get (t : Nat) (_ht : t < 512) : E.nil.get t = undefV := by
  unfold E.get E.nil
  cases dg2 t <;> cases dg1 t <;> cases dg0 t <;> rfl

omit [Gl] in
theorem ER_params {m : Mp} {args : List V} {cargs : Array Value} (ha : VRs m args cargs.toList) (hn : nt ≤ 512) (hl : args.length ≤ nt) :
    ER m (params args 0 E.nil) { tmps := cargs ++ Array.replicate (nt - cargs.size) undef, defers := [] } := by
  intro t ht
  have hlen := VRs_length ha
  rw [params_get args 0 E.nil t (by omega) ht]
  simp only [Nat.zero_le, true_and, Nat.zero_add, Nat.sub_zero]
  by_cases h : t < args.length
  · rw [if_pos h]
    have h1 : args[t]? = some (args.getD t undefV) := by simp [List.getD, h]
    obtain ⟨cv, h2, h3⟩ := ((VRs_iff m _ _).1 ha).2 t _ h1
    have h4 : (cargs ++ Array.replicate (nt - cargs.size) undef).getD t undef = cv := by
      have : cargs[t]? = some cv := by simpa using h2
      have hlt := (Array.getElem?_eq_some_iff.1 this).1
      simp [Array.getD_eq_getD_getElem?, Array.getElem?_append, hlt]
      simpa [hlt] using this
    rw [h4]
    exact h3
  · rw [if_neg h, E.nil_get t ht]
    have h4 : (cargs ++ Array.replicate (nt - cargs.size) undef).getD t undef = undef := by
      have hge : ¬ t < cargs.size := by simp at hlen; omega
      simp only [Array.getD_eq_getD_getElem?, Array.getElem?_append, hge, if_false]
      rw [Array.getElem?_replicate]
      split <;> rfl
    rw [h4]
    exact VR_undef m

omit [Gl] in
theorem consR_some {x : Option V} {o : Option (List V)} {l : List V} (h : consR x o = some l) : ∃ v r, x = some v ∧ o = some r ∧ l = v :: r := by
  cases x with
  | none => cases h
  | some v =>
    obtain ⟨r, h1, h2⟩ := consV_some (h : consV v o = some l)
    exact ⟨v, r, rfl, h1, h2⟩

def resOf (tmps : Array Value) : ResultVar → Sem Value
  | .tmp t => pure (tmps.getD t undef)
  | .cell x t => do loadVar t (← asAddr (tmps.getD x undef))

/-- The result variables are read. -/
theorem resultsL_run {lo : Nat} {m : Mp} {e : E} {σ : St} {a : Act} {w : World} (hE : ER m e a) (hR : Rel lo m σ w) : ∀ (rs : List ResultVar) (as : List ARes) (l : List V), rs.mapM (cRes P) = some as → resultsL as e σ = some l →
    ∃ cl : List Value, (rs.mapM (resOf a.tmps)).run P w = .ok cl w ∧ VRs m l cl
  | [], as, l, h, hl => by
    simp at h; subst h
    cases hl
    exact ⟨[], by simp, VRs_nil m⟩
  | r :: rs, as, l, h, hl => by
    rw [List.mapM_cons] at h
    simp only [Option.bind_eq_bind, Option.bind_eq_some_iff, Option.pure_def, Option.some.injEq] at h
    obtain ⟨x, h1, xs, h2, rfl⟩ := h
    change consR (result x e σ) (resultsL xs e σ) = some l at hl
    obtain ⟨v, l', h3, h4, rfl⟩ := consR_some hl
    obtain ⟨cl, h5, h6⟩ := resultsL_run hE hR rs xs l' h2 h4
    have one : ∃ cv, VR m v cv ∧ (resOf a.tmps r).run P w = .ok cv w := by
      cases r with
      | tmp t =>
        change (if t < 512 then some (ARes.t t) else none) = some x at h1
        by_cases ht : t < 512
        · rw [if_pos ht] at h1
          cases h1
          cases h3
          exact ⟨_, hE t ht, rfl⟩
        · rw [if_neg ht] at h1; cases h1
      | cell y t =>
        change (if y < 512 then (aggB P t).bind fun g => (sizeB P t).map fun n => ARes.cell y g n.1 else none) = some x at h1
        by_cases ht : y < 512
        · rw [if_pos ht] at h1
          simp only [Option.bind_eq_some_iff, Option.map_eq_some_iff] at h1
          obtain ⟨ag, g1, n, g2, rfl⟩ := h1
          change cellR ag n.1 σ (e.get y) = some v at h3
          unfold cellR at h3
          split at h3
          · rename_i b o hb
            have hv := hE y ht
            rw [hb] at hv
            simp only [VR] at hv
            obtain ⟨i, hi, hv⟩ := hv
            obtain ⟨cv, q1, q2⟩ := hR.loadVar g1 g2 hi h3
            refine ⟨cv, q2, ?_⟩
            simp [resOf, hv, asAddr, q1]
          · cases h3
        · rw [if_neg ht] at h1; cases h1
    obtain ⟨cv, q1, q2⟩ := one
    refine ⟨cv :: cl, ?_, VRs_cons q1 h6⟩
    rw [List.mapM_cons, Sem.run_bind, q2]
    simp only [Result.andThen_ok, Sem.run_bind, h5, Sem.run_pure]

omit [Gl] in
theorem results_eq (fn : Func) (tmps : Array Value) : _root_.Go.results fn tmps = (do
    let vs ← fn.results.mapM (resOf tmps)
    pure (if h : vs.size = 1 then vs[0] else .tuple vs)) := by
  unfold _root_.Go.results
  rfl

theorem results_run {lo : Nat} {m : Mp} {e : E} {σ : St} {a : Act} {w : World} (hE : ER m e a) (hR : Rel lo m σ w) {fn : Func} {as : List ARes} {v : V} (h : fn.results.toList.mapM (cRes P) = some as)
    (hv : Vm.results as e σ = some v) : ∃ cv, (_root_.Go.results fn a.tmps).run P w = .ok cv w ∧ VR m v cv := by
  have hv' : tupO (resultsL as e σ) = some v := hv
  cases hl : resultsL as e σ with
  | none => rw [hl] at hv'; cases hv'
  | some l =>
    rw [hl] at hv'
    have hv'' : tupV l = v := Option.some.inj hv'
    obtain ⟨cl, h1, h2⟩ := resultsL_run hE hR _ _ _ h hl
    rw [results_eq, Array.mapM_eq_mapM_toList]
    simp only [map_eq_pure_bind, Sem.run_bind, h1, Result.andThen_ok, Sem.run_pure]
    refine ⟨_, rfl, ?_⟩
    subst hv''
    match l, cl, h2 with
    | [], cl, h2 =>
      have := VRs_nil_inv h2
      subst this
      show VR m (.tuple []) (.tuple #[])
      simp only [VR]
      exact ⟨_, rfl, VRs_nil m⟩
    | [x], cl, h2 =>
      obtain ⟨y, ys, rfl, h3, h4⟩ := VRs_cons_inv h2
      have := VRs_nil_inv h4
      subst this
      exact h3
    | x :: x2 :: xs, cl, h2 =>
      obtain ⟨y, ys, rfl, h3, h4⟩ := VRs_cons_inv h2
      obtain ⟨y2, ys2, rfl, h5, h6⟩ := VRs_cons_inv h4
      show VR m (.tuple (x :: x2 :: xs)) (if h : _ then _ else _)
      rw [dif_neg (by simp)]
      simp only [VR]
      exact ⟨_, rfl, VRs_cons h3 (VRs_cons h5 h6)⟩

/-- What the table holds is what the program holds. -/
def TabOk (P : Program) (Fs : F3) : Prop := ∀ f fn, f < 512 → Fs.get f = some fn → cFunc P f = some fn

/-- What a function's body does. -/
def FnR (P : Program) (lo : Nat) (af : AFunc) (args : List V) (σ : St) (v : V) (σ' : St) : Prop :=
  lenN args ≤ af.nt ∧ ∃ rc, CodeR P lo af.body (params args 0 E.nil) σ rc ∧ ended af.res rc = .v v σ'

theorem does_of (hdr : DrawOk P) {f : Nat} {af : AFunc} (hc : cFunc P f = some af) {args : List V} {σ σ' : St} {v : V} (h : FnR P lo af args σ v σ') : Does P lo f args σ v σ' := by
  intro m w cargs hR ha
  unfold cFunc at hc
  split at hc
  · rename_i fn hfn
    split at hc
    · rename_i c hb
      split at hc
      · rename_i hok
        simp only [Option.map_eq_some_iff] at hc
        obtain ⟨as, hres, rfl⟩ := hc
        refine ⟨⟨fn, c, hfn, hb, hok.2⟩, ?_⟩
        obtain ⟨hl, rc, hrc, h⟩ := h
        have hl' : lenN args ≤ fn.ntmps := hl
        change CodeR P lo (cCode P fn.ntmps c) (params args 0 E.nil) σ rc at hrc
        change ended as rc = .v v σ' at h
        rw [lenN_eq] at hl'
        have hlen := VRs_length ha
        have hsz : cargs.size ≤ fn.ntmps := by simp at hlen; omega
        refine calls_of_wp hfn hb ?_
        cases rc with
        | no => cases h
        | exit id e' s' => cases h
        | pan x e' s' => cases h
        | norm e' s' =>
          obtain ⟨h1, rfl⟩ := val_v (h : val (Vm.results as e' s') s' = .v v σ')
          refine Code.wp_mono ?_ (code_sim hdr hok.1 c _ σ m _ w _ hrc (ER_params ha hok.1 hl') hR (by simp; omega) rfl)
          rintro x a' w' ⟨rfl, g1, g2, m', g3, g4, g5⟩
          obtain ⟨cv, q1, q2⟩ := results_run g3 g4 hres h1
          exact ⟨g2, cv, q1, cv, m', rfl, q2, g4, g5⟩
        | ret e' s' =>
          obtain ⟨h1, rfl⟩ := val_v (h : val (Vm.results as e' s') s' = .v v σ')
          refine Code.wp_mono ?_ (code_sim hdr hok.1 c _ σ m _ w _ hrc (ER_params ha hok.1 hl') hR (by simp; omega) rfl)
          rintro x a' w' ⟨rfl, g1, g2, m', g3, g4, g5⟩
          obtain ⟨cv, q1, q2⟩ := results_run g3 g4 hres h1
          exact ⟨g2, cv, q1, cv, m', rfl, q2, g4, g5⟩
      · cases hc
    · cases hc
  · cases hc

omit [Gl] in
theorem ended_good {res : List ARes} {rc : RC} {v : V} {σ' : St} (h : ended res rc = .v v σ') : Good rc := by
  cases rc <;> first | trivial | cases h

theorem evCall_does {Fs : F3} (hT : TabOk P Fs) (hdr : DrawOk P) (hev : CallOk P ev) (hag : AgainOk P ev) {f : Nat} {args : List V} {σ σ' : St} {v : V} (h : evCall Fs ev lo f args σ = .v v σ') : Does P lo f args σ v σ' := by
  unfold evCall at h
  have hlt : f < 512 := by
    cases hb : Nat.blt f 512 with
    | true => simpa [Nat.blt_eq] using hb
    | false => rw [hb] at h; cases h
  have hb : Nat.blt f 512 = true := by simpa [Nat.blt_eq] using hlt
  rw [hb] at h
  change Option.rec (motive := fun _ => R) .no (fun fn => callF ev lo args σ fn) (Fs.get f) = .v v σ' at h
  cases hf : Fs.get f with
  | none => rw [hf] at h; cases h
  | some af =>
    rw [hf] at h
    obtain ⟨hl, h⟩ := cond_v (h : cond (Nat.ble (lenN args) af.nt) (ended af.res (evCode af.body ev lo (params args 0 E.nil) σ)) .no = .v v σ')
    exact does_of hdr (hT f af hlt hf) ⟨Nat.le_of_ble_eq_true hl, _, evCode_R hev hag af.body _ σ _ rfl (ended_good h), h⟩

theorem evN_sound {Fs : F3} (hT : TabOk P Fs) (hdr : DrawOk P) : ∀ n, CallOk P (evN Fs n) ∧ AgainOk P (evN Fs n)
  | 0 => by
    constructor
    · intro lo f args σ σ' v h; cases h
    · intro lo c e σ rc h hg
      have : RC.no = rc := h
      subst this
      exact hg.elim
  | n + 1 => by
    obtain ⟨h1, h2⟩ := evN_sound hT hdr n
    constructor
    · intro lo f args σ σ' v h; exact evCall_does hT hdr h1 h2 (h : evCall Fs (evN Fs n) lo f args σ = .v v σ')
    · intro lo c e σ rc h hg; exact evCode_R h1 h2 c e σ rc h hg

end

end Go.Vm

/- Which slots an operation looks at; which need no memory. -/
namespace Go.Vm
variable [Gl]

section
variable {e e' : E}

omit [Gl] in
theorem opd_agree {x : Opd} (h : ∀ n ∈ rd x, e.get n = e'.get n) : opd x e = opd x e' := by
  cases x with
  | t n => exact h n (by simp [rd])
  | c v => rfl
  | g n => rfl

omit [Gl] in
theorem opds_agree : ∀ {l : List Opd}, (∀ n ∈ rdL l, e.get n = e'.get n) → opds l e = opds l e'
  | [], _ => rfl
  | x :: l, h => by
    show opd x e :: opds l e = opd x e' :: opds l e'
    rw [opd_agree (fun n hn => h n (by simp only [rdL, List.flatMap_cons, List.mem_append]; exact .inl hn)), opds_agree (l := l) (fun n hn => h n (by simp only [rdL, List.flatMap_cons, List.mem_append]; exact .inr hn))]

omit [Gl] in
theorem opds2_agree : ∀ {l : List (Nat × Opd)} {esz : Nat}, (∀ n ∈ rd2 l, e.get n = e'.get n) → opds2 l esz e = opds2 l esz e'
  | [], _, _ => rfl
  | x :: l, esz, h => by
    show (⟨_, _, opd x.2 e⟩ : Part) :: opds2 l esz e = (⟨_, _, opd x.2 e'⟩ : Part) :: opds2 l esz e'
    rw [opd_agree (fun n hn => h n (by simp only [rd2, List.flatMap_cons, List.mem_append]; exact .inl hn)), opds2_agree (l := l) (fun n hn => h n (by simp only [rd2, List.flatMap_cons, List.mem_append]; exact .inr hn))]

omit [Gl] in
theorem opds3_agree : ∀ {l : List (Nat × Nat × Opd)}, (∀ n ∈ rd3 l, e.get n = e'.get n) → opds3 l e = opds3 l e'
  | [], _ => rfl
  | x :: l, h => by
    show (⟨_, _, opd x.2.2 e⟩ : Part) :: opds3 l e = (⟨_, _, opd x.2.2 e'⟩ : Part) :: opds3 l e'
    rw [opd_agree (fun n hn => h n (by simp only [rd3, List.flatMap_cons, List.mem_append]; exact .inl hn)), opds3_agree (l := l) (fun n hn => h n (by simp only [rd3, List.flatMap_cons, List.mem_append]; exact .inr hn))]

omit [Gl] in
theorem natOpt_agree {x : Option Opd} (h : ∀ n ∈ rdO x, e.get n = e'.get n) : natOpt e x = natOpt e' x := by
  cases x with
  | none => rfl
  | some x =>
    show someO (natOf (opd x e)) = someO (natOf (opd x e'))
    rw [opd_agree h]

omit [Gl] in
theorem evOp_agree {ao : AOp} {ev : Ev} {lo : Nat} {σ : St} (h : ∀ n ∈ reads ao, e.get n = e'.get n) : evOp ao ev lo e σ = evOp ao ev lo e' σ := by
  cases ao with
  | mov x =>
    have h0 := opd_agree (e := e) (e' := e') (x := x) (fun n hn => h n (by simp [reads, hn]))
    show oMov x ev lo e σ = oMov x ev lo e' σ
    unfold oMov
    simp only [h0]
  | pick c a b =>
    have h0 := opd_agree (e := e) (e' := e') (x := c) (fun n hn => h n (by simp [reads, hn]))
    have h1 := opd_agree (e := e) (e' := e') (x := a) (fun n hn => h n (by simp [reads, hn]))
    have h2 := opd_agree (e := e) (e' := e') (x := b) (fun n hn => h n (by simp [reads, hn]))
    show oPick c a b ev lo e σ = oPick c a b ev lo e' σ
    unfold oPick
    simp only [h0, h1, h2]
  | alloc zero => rfl
  | box n x =>
    have h0 := opd_agree (e := e) (e' := e') (x := x) (fun n hn => h n (by simp [reads, hn]))
    show oBox n x ev lo e σ = oBox n x ev lo e' σ
    unfold oBox
    simp only [h0]
  | build zero ps =>
    have h0 := opds3_agree (e := e) (e' := e') (l := ps) (fun n hn => h n (by simp [reads, hn]))
    show oBuild zero ps ev lo e σ = oBuild zero ps ev lo e' σ
    unfold oBuild
    simp only [h0]
  | bslice zero len esz ps =>
    have h0 := opds2_agree (e := e) (e' := e') (l := ps) (esz := esz) (fun n hn => h n (by simp [reads, hn]))
    show oBslice zero len esz ps ev lo e σ = oBslice zero len esz ps ev lo e' σ
    unfold oBslice
    simp only [h0]
  | load ag n x =>
    have h0 := opd_agree (e := e) (e' := e') (x := x) (fun n hn => h n (by simp [reads, hn]))
    show oLoad ag n x ev lo e σ = oLoad ag n x ev lo e' σ
    unfold oLoad
    simp only [h0]
  | store n x y =>
    have h0 := opd_agree (e := e) (e' := e') (x := x) (fun n hn => h n (by simp [reads, hn]))
    have h1 := opd_agree (e := e) (e' := e') (x := y) (fun n hn => h n (by simp [reads, hn]))
    show oStore n x y ev lo e σ = oStore n x y ev lo e' σ
    unfold oStore
    simp only [h0, h1]
  | nilck x =>
    have h0 := opd_agree (e := e) (e' := e') (x := x) (fun n hn => h n (by simp [reads, hn]))
    show oNilck x ev lo e σ = oNilck x ev lo e' σ
    unfold oNilck
    simp only [h0]
  | bin op x y =>
    have h0 := opd_agree (e := e) (e' := e') (x := x) (fun n hn => h n (by simp [reads, hn]))
    have h1 := opd_agree (e := e) (e' := e') (x := y) (fun n hn => h n (by simp [reads, hn]))
    show oBin op x y ev lo e σ = oBin op x y ev lo e' σ
    unfold oBin
    simp only [h0, h1]
  | eq ng k x y =>
    have h0 := opd_agree (e := e) (e' := e') (x := x) (fun n hn => h n (by simp [reads, hn]))
    have h1 := opd_agree (e := e) (e' := e') (x := y) (fun n hn => h n (by simp [reads, hn]))
    show oEq ng k x y ev lo e σ = oEq ng k x y ev lo e' σ
    unfold oEq
    simp only [h0, h1]
  | un op x =>
    have h0 := opd_agree (e := e) (e' := e') (x := x) (fun n hn => h n (by simp [reads, hn]))
    show oUn op x ev lo e σ = oUn op x ev lo e' σ
    unfold oUn
    simp only [h0]
  | toInt k x =>
    have h0 := opd_agree (e := e) (e' := e') (x := x) (fun n hn => h n (by simp [reads, hn]))
    show oToInt k x ev lo e σ = oToInt k x ev lo e' σ
    unfold oToInt
    simp only [h0]
  | strstr x =>
    have h0 := opd_agree (e := e) (e' := e') (x := x) (fun n hn => h n (by simp [reads, hn]))
    show oStr x ev lo e σ = oStr x ev lo e' σ
    unfold oStr
    simp only [h0]
  | bytesOf x =>
    have h0 := opd_agree (e := e) (e' := e') (x := x) (fun n hn => h n (by simp [reads, hn]))
    show oBytesOf x ev lo e σ = oBytesOf x ev lo e' σ
    unfold oBytesOf
    simp only [h0]
  | strOf x =>
    have h0 := opd_agree (e := e) (e' := e') (x := x) (fun n hn => h n (by simp [reads, hn]))
    show oStrOf x ev lo e σ = oStrOf x ev lo e' σ
    unfold oStrOf
    simp only [h0]
  | iface t x =>
    have h0 := opd_agree (e := e) (e' := e') (x := x) (fun n hn => h n (by simp [reads, hn]))
    show oIface t x ev lo e σ = oIface t x ev lo e' σ
    unfold oIface
    simp only [h0]
  | mkfn f fs cs =>
    have h0 := opds_agree (e := e) (e' := e') (l := fs) (fun n hn => h n (by simp [reads, hn]))
    have h1 := opds_agree (e := e) (e' := e') (l := cs) (fun n hn => h n (by simp [reads, hn]))
    show oMkfn f fs cs ev lo e σ = oMkfn f fs cs ev lo e' σ
    unfold oMkfn
    simp only [h0, h1]
  | mkmap => rfl
  | mkslice zero esz bytes x y =>
    have h0 := opd_agree (e := e) (e' := e') (x := x) (fun n hn => h n (by simp [reads, hn]))
    have h1 := opd_agree (e := e) (e' := e') (x := y) (fun n hn => h n (by simp [reads, hn]))
    show oMkslice zero esz bytes x y ev lo e σ = oMkslice zero esz bytes x y ev lo e' σ
    unfold oMkslice
    simp only [h0, h1]
  | slstr x p q =>
    have h0 := opd_agree (e := e) (e' := e') (x := x) (fun n hn => h n (by simp [reads, hn]))
    have h1 := natOpt_agree (e := e) (e' := e') (x := p) (fun n hn => h n (by simp [reads, hn]))
    have h2 := natOpt_agree (e := e) (e' := e') (x := q) (fun n hn => h n (by simp [reads, hn]))
    show oSlstr x p q ev lo e σ = oSlstr x p q ev lo e' σ
    unfold oSlstr
    simp only [h0, h1, h2]
  | slsl esz x p q r =>
    have h0 := opd_agree (e := e) (e' := e') (x := x) (fun n hn => h n (by simp [reads, hn]))
    have h1 := natOpt_agree (e := e) (e' := e') (x := p) (fun n hn => h n (by simp [reads, hn]))
    have h2 := natOpt_agree (e := e) (e' := e') (x := q) (fun n hn => h n (by simp [reads, hn]))
    have h3 := natOpt_agree (e := e) (e' := e') (x := r) (fun n hn => h n (by simp [reads, hn]))
    show oSlsl esz x p q r ev lo e σ = oSlsl esz x p q r ev lo e' σ
    unfold oSlsl
    simp only [h0, h1, h2, h3]
  | slarr n esz x p q r =>
    have h0 := opd_agree (e := e) (e' := e') (x := x) (fun n hn => h n (by simp [reads, hn]))
    have h1 := natOpt_agree (e := e) (e' := e') (x := p) (fun n hn => h n (by simp [reads, hn]))
    have h2 := natOpt_agree (e := e) (e' := e') (x := q) (fun n hn => h n (by simp [reads, hn]))
    have h3 := natOpt_agree (e := e) (e' := e') (x := r) (fun n hn => h n (by simp [reads, hn]))
    show oSlarr n esz x p q r ev lo e σ = oSlarr n esz x p q r ev lo e' σ
    unfold oSlarr
    simp only [h0, h1, h2, h3]
  | faddr off x =>
    have h0 := opd_agree (e := e) (e' := e') (x := x) (fun n hn => h n (by simp [reads, hn]))
    show oFaddr off x ev lo e σ = oFaddr off x ev lo e' σ
    unfold oFaddr
    simp only [h0]
  | field off ag n x =>
    have h0 := opd_agree (e := e) (e' := e') (x := x) (fun n hn => h n (by simp [reads, hn]))
    show oField off ag n x ev lo e σ = oField off ag n x ev lo e' σ
    unfold oField
    simp only [h0]
  | iaddr esz x y =>
    have h0 := opd_agree (e := e) (e' := e') (x := x) (fun n hn => h n (by simp [reads, hn]))
    have h1 := opd_agree (e := e) (e' := e') (x := y) (fun n hn => h n (by simp [reads, hn]))
    show oIaddr esz x y ev lo e σ = oIaddr esz x y ev lo e' σ
    unfold oIaddr
    simp only [h0, h1]
  | iaddra n esz x y =>
    have h0 := opd_agree (e := e) (e' := e') (x := x) (fun n hn => h n (by simp [reads, hn]))
    have h1 := opd_agree (e := e) (e' := e') (x := y) (fun n hn => h n (by simp [reads, hn]))
    show oIaddra n esz x y ev lo e σ = oIaddra n esz x y ev lo e' σ
    unfold oIaddra
    simp only [h0, h1]
  | idxs x y =>
    have h0 := opd_agree (e := e) (e' := e') (x := x) (fun n hn => h n (by simp [reads, hn]))
    have h1 := opd_agree (e := e) (e' := e') (x := y) (fun n hn => h n (by simp [reads, hn]))
    show oIdxs x y ev lo e σ = oIdxs x y ev lo e' σ
    unfold oIdxs
    simp only [h0, h1]
  | idxa len esz ag x y =>
    have h0 := opd_agree (e := e) (e' := e') (x := x) (fun n hn => h n (by simp [reads, hn]))
    have h1 := opd_agree (e := e) (e' := e') (x := y) (fun n hn => h n (by simp [reads, hn]))
    show oIdxa len esz ag x y ev lo e σ = oIdxa len esz ag x y ev lo e' σ
    unfold oIdxa
    simp only [h0, h1]
  | lookup kk zero ok x y =>
    have h0 := opd_agree (e := e) (e' := e') (x := x) (fun n hn => h n (by simp [reads, hn]))
    have h1 := opd_agree (e := e) (e' := e') (x := y) (fun n hn => h n (by simp [reads, hn]))
    show oLookup kk zero ok x y ev lo e σ = oLookup kk zero ok x y ev lo e' σ
    unfold oLookup
    simp only [h0, h1]
  | mapset kk x y z =>
    have h0 := opd_agree (e := e) (e' := e') (x := x) (fun n hn => h n (by simp [reads, hn]))
    have h1 := opd_agree (e := e) (e' := e') (x := y) (fun n hn => h n (by simp [reads, hn]))
    have h2 := opd_agree (e := e) (e' := e') (x := z) (fun n hn => h n (by simp [reads, hn]))
    show oMapset kk x y z ev lo e σ = oMapset kk x y z ev lo e' σ
    unfold oMapset
    simp only [h0, h1, h2]
  | extr x i =>
    have h0 := opd_agree (e := e) (e' := e') (x := x) (fun n hn => h n (by simp [reads, hn]))
    show oExtr x i ev lo e σ = oExtr x i ev lo e' σ
    unfold oExtr
    simp only [h0]
  | call f xs =>
    have h0 := opds_agree (e := e) (e' := e') (l := xs) (fun n hn => h n (by simp [reads, hn]))
    show oCall f xs ev lo e σ = oCall f xs ev lo e' σ
    unfold oCall
    simp only [h0]
  | callv x xs =>
    have h0 := opd_agree (e := e) (e' := e') (x := x) (fun n hn => h n (by simp [reads, hn]))
    have h1 := opds_agree (e := e) (e' := e') (l := xs) (fun n hn => h n (by simp [reads, hn]))
    show oCallv x xs ev lo e σ = oCallv x xs ev lo e' σ
    unfold oCallv
    simp only [h0, h1]
  | append esz bytes x y =>
    have h0 := opd_agree (e := e) (e' := e') (x := x) (fun n hn => h n (by simp [reads, hn]))
    have h1 := opd_agree (e := e) (e' := e') (x := y) (fun n hn => h n (by simp [reads, hn]))
    show oAppend esz bytes x y ev lo e σ = oAppend esz bytes x y ev lo e' σ
    unfold oAppend
    simp only [h0, h1]
  | appendf esz bytes x y =>
    have h0 := opd_agree (e := e) (e' := e') (x := x) (fun n hn => h n (by simp [reads, hn]))
    have h1 := opd_agree (e := e) (e' := e') (x := y) (fun n hn => h n (by simp [reads, hn]))
    show oAppendF esz bytes x y ev lo e σ = oAppendF esz bytes x y ev lo e' σ
    unfold oAppendF
    simp only [h0, h1]
  | len k x =>
    have h0 := opd_agree (e := e) (e' := e') (x := x) (fun n hn => h n (by simp [reads, hn]))
    show oLen k x ev lo e σ = oLen k x ev lo e' σ
    unfold oLen
    simp only [h0]
  | copy esz x y =>
    have h0 := opd_agree (e := e) (e' := e') (x := x) (fun n hn => h n (by simp [reads, hn]))
    have h1 := opd_agree (e := e) (e' := e') (x := y) (fun n hn => h n (by simp [reads, hn]))
    show oCopy esz x y ev lo e σ = oCopy esz x y ev lo e' σ
    unfold oCopy
    simp only [h0, h1]
  | minmax mx x y =>
    have h0 := opd_agree (e := e) (e' := e') (x := x) (fun n hn => h n (by simp [reads, hn]))
    have h1 := opd_agree (e := e) (e' := e') (x := y) (fun n hn => h n (by simp [reads, hn]))
    show oMinmax mx x y ev lo e σ = oMinmax mx x y ev lo e' σ
    unfold oMinmax
    simp only [h0, h1]
  | clear zero x =>
    have h0 := opd_agree (e := e) (e' := e') (x := x) (fun n hn => h n (by simp [reads, hn]))
    show oClear zero x ev lo e σ = oClear zero x ev lo e' σ
    unfold oClear
    simp only [h0]
  | panic x =>
    have h0 := opd_agree (e := e) (e' := e') (x := x) (fun n hn => h n (by simp [reads, hn]))
    show oPanic x ev lo e σ = oPanic x ev lo e' σ
    unfold oPanic
    simp only [h0]
  | bad => rfl

omit [Gl] in
/-- What needs no memory: the memory stays, and another would do. -/
theorem pure_ev {ao : AOp} (hc : cls ao = 0) {ev : Ev} {lo : Nat} {σ σ' : St} {v : V} (h : evOp ao ev lo e σ = .v v σ') : σ' = σ ∧ ∀ ev2 lo2 σ2, evOp ao ev2 lo2 e σ2 = .v v σ2 := by
  have one : ∀ {x : Option V}, val x σ = .v v σ' → σ' = σ ∧ ∀ (σ2 : St), val x σ2 = .v v σ2 := fun hx => by
    obtain ⟨h1, h2⟩ := val_v hx
    exact ⟨h2, fun σ2 => by rw [h1]; rfl⟩
  cases ao with
  | mov x => cases h; exact ⟨rfl, fun _ _ _ => rfl⟩
  | pick c a b => exact ⟨(one h).1, fun _ _ σ2 => (one h).2 σ2⟩
  | alloc zero => cases hc
  | box n x => cases hc
  | build zero ps => exact ⟨(one h).1, fun _ _ σ2 => (one h).2 σ2⟩
  | bslice zero len esz ps => cases hc
  | load ag n x => cases hc
  | store n x y => cases hc
  | nilck x => exact ⟨(one h).1, fun _ _ σ2 => (one h).2 σ2⟩
  | bin op x y => exact ⟨(one h).1, fun _ _ σ2 => (one h).2 σ2⟩
  | eq ng k x y => exact ⟨(one h).1, fun _ _ σ2 => (one h).2 σ2⟩
  | un op x => exact ⟨(one h).1, fun _ _ σ2 => (one h).2 σ2⟩
  | toInt k x => exact ⟨(one h).1, fun _ _ σ2 => (one h).2 σ2⟩
  | strstr x => exact ⟨(one h).1, fun _ _ σ2 => (one h).2 σ2⟩
  | bytesOf x => cases hc
  | strOf x => cases hc
  | iface t x => cases h; exact ⟨rfl, fun _ _ _ => rfl⟩
  | mkfn f fs cs => cases h; exact ⟨rfl, fun _ _ _ => rfl⟩
  | mkmap => cases hc
  | mkslice zero esz bytes x y => cases hc
  | slstr x p q => exact ⟨(one h).1, fun _ _ σ2 => (one h).2 σ2⟩
  | slsl esz x p q r => exact ⟨(one h).1, fun _ _ σ2 => (one h).2 σ2⟩
  | slarr n esz x p q r => exact ⟨(one h).1, fun _ _ σ2 => (one h).2 σ2⟩
  | faddr off x => exact ⟨(one h).1, fun _ _ σ2 => (one h).2 σ2⟩
  | field off ag n x => exact ⟨(one h).1, fun _ _ σ2 => (one h).2 σ2⟩
  | iaddr esz x y => exact ⟨(one h).1, fun _ _ σ2 => (one h).2 σ2⟩
  | iaddra n esz x y => exact ⟨(one h).1, fun _ _ σ2 => (one h).2 σ2⟩
  | idxs x y => exact ⟨(one h).1, fun _ _ σ2 => (one h).2 σ2⟩
  | idxa len esz ag x y => exact ⟨(one h).1, fun _ _ σ2 => (one h).2 σ2⟩
  | lookup kk zero ok x y => cases hc
  | mapset kk x y z => cases hc
  | extr x i => exact ⟨(one h).1, fun _ _ σ2 => (one h).2 σ2⟩
  | call f xs => cases hc
  | callv x xs => cases hc
  | append esz bytes x y => cases hc
  | appendf esz bytes x y => cases hc
  | len k x => cases hc
  | copy esz x y => cases hc
  | minmax mx x y => exact ⟨(one h).1, fun _ _ σ2 => (one h).2 σ2⟩
  | clear zero x => cases hc
  | panic x => cases hc
  | bad => cases hc

end

end Go.Vm

/- An append that sets no cell that is there: what it leaves of the store. -/
namespace Go.Vm
variable [Gl]

/-- A block that is the same, or the same but written no more. -/
def Sim (b b' : Blk) : Prop := b' = b ∨ ∃ cs anc, b = .cells cs true anc ∧ b' = .cells cs false []

omit [Gl] in
theorem Sim.refl (b : Blk) : Sim b b := .inl rfl
omit [Gl] in
theorem Sim.trans {a b c : Blk} (h : Sim a b) (h' : Sim b c) : Sim a c := by
  rcases h with rfl | ⟨cs, anc, rfl, rfl⟩
  · exact h'
  · rcases h' with rfl | ⟨cs', anc', h1, _⟩
    · exact .inr ⟨cs, anc, rfl, rfl⟩
    · cases h1
omit [Gl] in
theorem Sim.cells {b b' : Blk} (h : Sim b b') {cs : List V} {rw' : Bool} {anc : List Nat} (hb : b' = .cells cs rw' anc) : ∃ rw1 anc1, b = .cells cs rw1 anc1 := by
  rcases h with rfl | ⟨cs', anc', rfl, h1⟩
  · exact ⟨rw', anc, hb⟩
  · rw [hb] at h1; cases h1; exact ⟨true, anc', rfl⟩
omit [Gl] in
theorem Sim.rw_true {b b' : Blk} (h : Sim b b') {cs : List V} {anc : List Nat} (hb : b' = .cells cs true anc) : b = .cells cs true anc := by
  rcases h with rfl | ⟨cs', anc', rfl, h1⟩
  · exact hb
  · rw [hb] at h1; cases h1
omit [Gl] in
theorem Sim.map {b b' : Blk} (h : Sim b b') {es : List (V × V)} (hb : b' = .map es) : b = .map es := by
  rcases h with rfl | ⟨cs', anc', rfl, h1⟩
  · exact hb
  · rw [hb] at h1; cases h1
omit [Gl] in
theorem Sim.live {b b' : Blk} (h : Sim b b') (hb : b' ≠ .none) : b ≠ .none := by
  rcases h with rfl | ⟨cs', anc', rfl, h1⟩
  · exact hb
  · simp
omit [Gl] in
theorem Sim.stale {b b' : Blk} (h : Sim b b') {cs : List V} {anc : List Nat} (hb : b = .cells cs false anc) : b' = .cells cs false anc := by
  rcases h with rfl | ⟨cs', anc', h1, _⟩
  · exact hb
  · rw [hb] at h1; cases h1

/-- What such an append leaves. -/
def Leaves' (lo : Nat) (s : V) (σ σ' : St) : Prop :=
  σ' = σ ∨ (True ∧ ∃ B, σ' = σ.new B) ∨
    (True ∧ ∃ b q l c cs anc B, s = .slice b q l c ∧ b < σ.next ∧ lo ≤ b ∧ σ.mem.get b = .cells cs true anc ∧ σ' = ({ mem := σ.mem.set b (.cells cs false []), next := σ.next } : St).new B)

omit [Gl] in
theorem condR {b : Bool} {x : R} {v : V} {σ : St} (h : cond b .no x = .v v σ) : b = false ∧ x = .v v σ := by
  cases b
  · exact ⟨rfl, h⟩
  · cases h

omit [Gl] in
theorem appF_some {lo esz bytes n : Nat} {s : V} {news : List V} {σ σ' : St} {v : V} (h : appendFV lo esz bytes s n news σ = .v v σ') :
    appendV lo esz bytes s n news σ = .v v σ' ∧ Leaves' lo s σ σ' := by
  unfold appendFV at h
  split at h
  · cases hn : Nat.beq n 0 with
    | true =>
      rw [hn] at h
      refine ⟨?_, ?_⟩
      · show cond (Nat.beq n 0) _ _ = _
        rw [hn]; exact h
      · cases h; exact .inl rfl
    | false =>
      rw [hn] at h
      refine ⟨?_, ?_⟩
      · show cond (Nat.beq n 0) _ _ = _
        rw [hn]; exact h
      · obtain ⟨_, h⟩ := cond_v h
        obtain ⟨h1, _, h2⟩ := made_v h
        exact .inr (.inl ⟨h1, _, h2⟩)
  · rename_i b q len cap
    cases hn : Nat.beq n 0 with
    | true =>
      rw [hn] at h
      refine ⟨?_, ?_⟩
      · show cond (Nat.beq n 0) _ _ = _
        rw [hn]; exact h
      · cases h; exact .inl rfl
    | false =>
      rw [hn] at h
      obtain ⟨hroom, h⟩ := cond_v h
      suffices hs : appSome lo esz b q len n news σ cap = .v v σ' ∧ Leaves' lo (.slice b q len cap) σ σ' by
        refine ⟨?_, hs.2⟩
        show cond (Nat.beq n 0) _ (cond _ _ _) = _
        rw [hn, hroom]; exact hs.1
      cases cap with
      | is c =>
        obtain ⟨hfit, h⟩ := condR (show cond (Nat.ble (Nat.add len n) c) R.no (appCopy esz (Nat.add len n) news σ (readN σ b q (Nat.mul len esz))) = R.v v σ' from h)
        refine ⟨?_, ?_⟩
        · show cond (Nat.ble (Nat.add len n) c) _ _ = _
          rw [hfit]; exact h
        · cases hr : readN σ b q (Nat.mul len esz) with
          | none => rw [hr] at h; cases h
          | some old =>
            rw [hr] at h
            obtain ⟨h1, _, h2⟩ := made_v h
            exact .inr (.inl ⟨h1, _, h2⟩)
      | un z =>
        obtain ⟨hz, h⟩ := cond_v (h : cond (Nat.beq z esz) (appOpenF lo esz b q len n news σ (σ.mem.get b)) .no = .v v σ')
        suffices hs : appOpen lo esz b q len n news σ (σ.mem.get b) = .v v σ' ∧ Leaves' lo (.slice b q len (.un z)) σ σ' by
          refine ⟨?_, hs.2⟩
          show cond (Nat.beq z esz) _ _ = _
          rw [hz]; exact hs.1
        cases hb : σ.mem.get b with
        | map es => rw [hb] at h; cases h
        | none => rw [hb] at h; cases h
        | cells cs rw' anc =>
          rw [hb] at h
          obtain ⟨hfit, h⟩ := condR (show cond (Nat.ble (Nat.add q (Nat.mul (Nat.add len n) esz)) (lenN cs)) R.no (cond (Nat.blt b σ.next) (appMove lo esz b q (Nat.add q (Nat.mul len esz)) (Nat.add len n) news σ cs rw' anc) .no) = R.v v σ' from h)
          obtain ⟨hbn, h⟩ := cond_v h
          have hbn' : b < σ.next := by simpa [Nat.blt_eq] using hbn
          refine ⟨?_, ?_⟩
          · show cond (Nat.ble (Nat.add q (Nat.mul (Nat.add len n) esz)) (lenN cs)) _ _ = _
            rw [hfit]; exact h
          · unfold appMove at h
            obtain ⟨h1, k1⟩ := cond_v h
            obtain ⟨h2, k2⟩ := cond_v k1
            obtain ⟨_, k3⟩ := cond_v k2
            obtain ⟨h4, _, h5⟩ := made_v k3
            subst h1
            have hlo : lo ≤ b := by
              cases h6 : Nat.ble lo b with
              | false => rw [h6] at h2; cases h2
              | true => exact Nat.le_of_ble_eq_true h6
            exact .inr (.inr ⟨h4, b, q, len, .un z, cs, anc, _, rfl, hbn', hlo, hb, h5⟩)
  · cases h

omit [Gl] in
theorem leaves_sim {lo : Nat} {s : V} {σ σ' : St} (h : Leaves' lo s σ σ') : ∀ id, id < σ.next → Sim (σ.mem.get id) (σ'.mem.get id) := by
  intro id hid
  rcases h with rfl | ⟨hn, B, rfl⟩ | ⟨hn, b, q, l, c, cs, anc, B, rfl, hbn, hlo, hg, rfl⟩
  · exact Sim.refl _
  · rw [St.new_get_ne σ B (by omega)]; exact Sim.refl _
  · rw [St.new_get_ne ({ mem := σ.mem.set b (.cells cs false []), next := σ.next } : St) B (show id ≠ σ.next by omega)]
    by_cases e : id = b
    · subst e
      show Sim _ ((σ.mem.set id _).get id)
      rw [M.get_set]
      exact .inr ⟨cs, anc, hg, rfl⟩
    · show Sim _ ((σ.mem.set b _).get id)
      rw [M.get_set_ne _ _ e]; exact Sim.refl _

omit [Gl] in
theorem oAppendF_ok {esz bytes : Nat} {s x : Opd} {ev : Ev} {lo : Nat} {e : E} {σ σ' : St} {v : V} (h : oAppendF esz bytes s x ev lo e σ = .v v σ') :
    oAppend esz bytes s x ev lo e σ = .v v σ' ∧ Leaves' lo (opd s e) σ σ' := by
  unfold oAppendF at h
  cases hn : lenV (opd x e) with
  | none => rw [hn] at h; cases h
  | some n =>
    rw [hn] at h
    change appendOF lo esz bytes (opd s e) n σ (firstN esz n σ (opd x e)) = .v v σ' at h
    cases hf : firstN esz n σ (opd x e) with
    | none => rw [hf] at h; cases h
    | some news =>
      rw [hf] at h
      obtain ⟨h1, h2⟩ := appF_some h
      refine ⟨?_, h2⟩
      unfold oAppend
      rw [hn]
      show appendO lo esz bytes (opd s e) n σ (firstN esz n σ (opd x e)) = .v v σ'
      rw [hf]
      exact h1

omit [Gl] in
theorem toF_ok {ao : AOp} {ev : Ev} {lo : Nat} {e : E} {σ σ' : St} {v : V} (h : evOp (toF ao) ev lo e σ = .v v σ') (hc : cls ao = 2) :
    evOp ao ev lo e σ = .v v σ' ∧ ∃ x, (∀ n ∈ rd x, n ∈ reads ao) ∧ Leaves' lo (opd x e) σ σ' := by
  cases ao <;> first | (cases hc; done) | skip
  · rename_i esz bytes s x
    obtain ⟨h1, h2⟩ := oAppendF_ok (ev := ev) (h : oAppendF esz bytes s x ev lo e σ = .v v σ')
    exact ⟨h1, s, fun m hm => List.mem_append_left _ hm, h2⟩
  · rename_i esz bytes s x
    obtain ⟨_, h2⟩ := oAppendF_ok (ev := ev) (h : oAppendF esz bytes s x ev lo e σ = .v v σ')
    exact ⟨h, s, fun m hm => List.mem_append_left _ hm, h2⟩

end Go.Vm

/- Drawing regions: memories that are joined. -/
namespace Go.Vm
variable [Gl]

section
variable {lo : Nat} {m m1 mi : Mp} {σ σi σ1 σk σ2 : St} {w w1 : World}

omit [Gl] in
theorem cell_same {w w1 : World} (h : ∀ cb, cb < w.heap.size → w1.heap[cb]? = w.heap[cb]?) {b j : Nat} (hb : b < w.heap.size) : w1.cell? ⟨b, j, none⟩ = w.cell? ⟨b, j, none⟩ :=
  World.cell?_of_block (a := ⟨b, j, none⟩) (h b hb)

/-- The memory only grew. -/
theorem Rel.grown (hR : Rel lo m σ w) (h : ∀ cb, cb < w.heap.size → w1.heap[cb]? = w.heap[cb]?) (hs : w.heap.size ≤ w1.heap.size) : Rel lo m σ w1 where
  pins := hR.pins
  dom := fun id i hi => ⟨(hR.dom id i hi).1, Nat.lt_of_lt_of_le (hR.dom id i hi).2 hs⟩
  cell := fun id i cs rw' anc hi hg j v hv => by rw [cell_same h (hR.dom id i hi).2]; exact hR.cell id i cs rw' anc hi hg j v hv
  mp := fun id i es hi hg => by rw [h _ (hR.dom id i hi).2]; exact hR.mp id i es hi hg
  own := fun id i cs anc hl hi hg =>
    let ow := hR.own id i cs anc hl hi hg
    ⟨ow.fit, by rw [h _ (hR.dom id i hi).2]; exact ow.row, ow.only, ow.anc⟩
  ownm := hR.ownm

/-- Another store that says the same of what is known; some may be written no more. -/
theorem Rel.agree (hR : Rel lo m σ w) (h : ∀ id, id < σ.next → Sim (σ.mem.get id) (σ2.mem.get id)) (_hn : True) (hle : σ.next ≤ σ2.next) : Rel lo m σ2 w where
  pins := hR.pins
  dom := fun id i hi => ⟨Nat.lt_of_lt_of_le (hR.dom id i hi).1 hle, (hR.dom id i hi).2⟩
  cell := fun id i cs rw' anc hi hg => by
    obtain ⟨r1, a1, h1⟩ := (h id (hR.dom id i hi).1).cells hg
    exact hR.cell id i cs r1 a1 hi h1
  mp := fun id i es hi hg => hR.mp id i es hi ((h id (hR.dom id i hi).1).map hg)
  own := fun id i cs anc hl hi hg => by
    have ow := hR.own id i cs anc hl hi ((h id (hR.dom id i hi).1).rw_true hg)
    refine ⟨ow.fit, ow.row, ?_, ow.anc⟩
    intro id' i' hi' hb hne
    have hs := h id' (hR.dom id' i' hi').1
    rcases ow.only id' i' hi' hb (hs.live hne) with h1 | ⟨h1, cs', a', h2, h3⟩
    · exact .inl h1
    · exact .inr ⟨h1, cs', a', hs.stale h2, h3⟩
  ownm := fun id i es hl hi hg id' i' hi' hb hne => hR.ownm id i es hl hi ((h id (hR.dom id i hi).1).map hg) id' i' hi' hb ((h id' (hR.dom id' i' hi').1).live hne)

def cut (n : Nat) (m : Mp) : Mp := fun id => if id < n then m id else none
def merge (m m1 : Mp) : Mp := fun id => match m id with | some i => some i | none => m1 id

omit [Gl] in
theorem cut_some {n id : Nat} {i : Info} (h : cut n m id = some i) : id < n ∧ m id = some i := by
  unfold cut at h
  split at h
  · exact ⟨by assumption, h⟩
  · cases h
omit [Gl] in
theorem cut_lt {n id : Nat} (h : id < n) : cut n m id = m id := by simp [cut, h]
omit [Gl] in
theorem cut_ge {n id : Nat} (h : n ≤ id) : cut n m id = none := by simp [cut]; omega
omit [Gl] in
theorem Le.cut (n : Nat) (m : Mp) : Le (cut n m) m := fun _ _ h => (cut_some h).2
omit [Gl] in
theorem Le.cut_cut {n n' : Nat} (h : n ≤ n') (m : Mp) : Le (Vm.cut n m) (Vm.cut n' m) := fun id i hi => by
  obtain ⟨h1, h2⟩ := cut_some hi
  rw [cut_lt (Nat.lt_of_lt_of_le h1 h)]; exact h2
omit [Gl] in
theorem Le.cut_mono {n : Nat} {m m' : Mp} (h : Le m m') : Le (Vm.cut n m) (Vm.cut n m') := fun id i hi => by
  obtain ⟨h1, h2⟩ := cut_some hi
  rw [cut_lt h1]; exact h _ _ h2

omit [Gl] in
theorem merge_left {id : Nat} {i : Info} (h : m id = some i) : merge m m1 id = some i := by simp [merge, h]
omit [Gl] in
theorem merge_right {id : Nat} (h : m id = none) : merge m m1 id = m1 id := by simp [merge, h]
omit [Gl] in
theorem Le.merge (m m1 : Mp) : Le m (merge m m1) := fun _ _ h => merge_left h
omit [Gl] in
theorem merge_inv {id : Nat} {i : Info} (h : merge m m1 id = some i) : m id = some i ∨ (m id = none ∧ m1 id = some i) := by
  cases hm : m id with
  | some j => rw [merge_left hm] at h; exact .inl h
  | none => rw [merge_right hm] at h; exact .inr ⟨rfl, h⟩

/-- A step that may write nothing that lay there: what it does to another view of the memory. -/
structure Light (m mi : Mp) (σi : St) (w : World) (m1 : Mp) (σ1 : St) (w1 : World) : Prop where
  ext : Ext σi.next mi σi w m1 σ1 w1
  rel : Rel σi.next m1 σ1 w1
  lt : ∀ id, id < σi.next → mi id = m id
  ge : ∀ id, σi.next ≤ id → mi id = none
  free : ∀ id, σi.next ≤ id → id < σ1.next → m id = none

theorem Light.old (h : Light m mi σi w m1 σ1 w1) : ∀ cb, cb < w.heap.size → w1.heap[cb]? = w.heap[cb]? := fun cb hcb =>
  h.ext.frame cb hcb (fun ⟨id, i, hl, hi, _⟩ => by rw [h.ge id hl] at hi; cases hi)

theorem Light.lo1 (h : Light m mi σi w m1 σ1 w1) {id : Nat} (hid : id < σi.next) : m1 id = m id := by
  rw [← h.lt id hid]
  cases hm : mi id with
  | none => exact h.ext.newd id hid hm
  | some i => exact h.ext.le id i hm

theorem Light.le1 (h : Light m mi σi w m1 σ1 w1) : Le m1 (merge m m1) := fun id i hi => by
  cases hm : m id with
  | none => rw [merge_right hm]; exact hi
  | some j =>
    rw [merge_left hm]
    rcases Nat.lt_or_ge id σi.next with h1 | h1
    · rw [h.lo1 h1, hm] at hi; exact hi
    · have := h.free id h1 (h.rel.dom id i hi).1
      rw [hm] at this; cases this

theorem Light.new_ge (h : Light m mi σi w m1 σ1 w1) {id : Nat} {i : Info} (hm : m id = none) (hi : m1 id = some i) : σi.next ≤ id ∧ id < σ1.next ∧ w.heap.size ≤ i.blk := by
  have hge : σi.next ≤ id := by
    rcases Nat.lt_or_ge id σi.next with h1 | h1
    · rw [h.lo1 h1, hm] at hi; cases hi
    · exact h1
  refine ⟨hge, (h.rel.dom id i hi).1, ?_⟩
  rcases h.ext.fresh id i hi (h.ge id hge) with h1 | ⟨id', i', hl, hi', _⟩
  · exact h1
  · rw [h.ge id' hl] at hi'; cases hi'

theorem Rel.join (hk : Rel lo m σk w) (h : Light m mi σi w m1 σ1 w1) (hag : ∀ id, id < σ1.next → Sim (σ1.mem.get id) (σk.mem.get id)) (hle : σ1.next ≤ σk.next) : Rel lo (merge m m1) σk w1 where
  pins := hk.pins.mono (Le.merge _ _)
  dom := fun id i hi => by
    rcases merge_inv hi with h1 | ⟨h1, h2⟩
    · exact ⟨(hk.dom id i h1).1, Nat.lt_of_lt_of_le (hk.dom id i h1).2 h.ext.size⟩
    · exact ⟨Nat.lt_of_lt_of_le (h.rel.dom id i h2).1 hle, (h.rel.dom id i h2).2⟩
  cell := fun id i cs rw' anc hi hg j v hv => by
    rcases merge_inv hi with h1 | ⟨h1, h2⟩
    · obtain ⟨cv, q1, q2⟩ := hk.cell id i cs rw' anc h1 hg j v hv
      exact ⟨cv, by rw [cell_same h.old (hk.dom id i h1).2]; exact q1, VR.mono (Le.merge _ _) _ _ q2⟩
    · obtain ⟨r1, a1, hg1⟩ := (hag id (h.rel.dom id i h2).1).cells hg
      obtain ⟨cv, q1, q2⟩ := h.rel.cell id i cs r1 a1 h2 hg1 j v hv
      exact ⟨cv, q1, VR.mono h.le1 _ _ q2⟩
  mp := fun id i es hi hg => by
    rcases merge_inv hi with h1 | ⟨h1, h2⟩
    · obtain ⟨ces, cl, q1, q2⟩ := hk.mp id i es h1 hg
      exact ⟨ces, cl, by rw [h.old _ (hk.dom id i h1).2]; exact q1, q2.mono (Le.merge _ _)⟩
    · obtain ⟨ces, cl, q1, q2⟩ := h.rel.mp id i es h2 ((hag id (h.rel.dom id i h2).1).map hg)
      exact ⟨ces, cl, q1, q2.mono h.le1⟩
  own := fun id i cs anc hl hi hg => by
    rcases merge_inv hi with h1 | ⟨h1, h2⟩
    · have ow := hk.own id i cs anc hl h1 hg
      refine ⟨ow.fit, by rw [h.old _ (hk.dom id i h1).2]; exact ow.row, ?_, fun a ha => let ⟨q1, j, q2⟩ := ow.anc a ha; ⟨q1, j, Le.merge _ _ _ _ q2⟩⟩
      intro id' i' hi' hb hne
      rcases merge_inv hi' with g1 | ⟨g1, g2⟩
      · exact ow.only id' i' g1 hb hne
      · have := (h.new_ge g1 g2).2.2
        have := (hk.dom id i h1).2
        omega
    · have hn := h.new_ge h1 h2
      have ow := h.rel.own id i cs anc hn.1 h2 ((hag id hn.2.1).rw_true hg)
      refine ⟨ow.fit, ow.row, ?_, fun a ha => let ⟨q1, j, q2⟩ := ow.anc a ha; ⟨q1, j, h.le1 _ _ q2⟩⟩
      intro id' i' hi' hb hne
      rcases merge_inv hi' with g1 | ⟨g1, g2⟩
      · have := (hk.dom id' i' g1).2
        omega
      · have hn' := h.new_ge g1 g2
        rcases ow.only id' i' g2 hb ((hag id' hn'.2.1).live hne) with k1 | ⟨k1, cs', a', k2, k3⟩
        · exact .inl k1
        · exact .inr ⟨k1, cs', a', (hag id' hn'.2.1).stale k2, k3⟩
  ownm := fun id i es hl hi hg id' i' hi' hb hne => by
    rcases merge_inv hi with h1 | ⟨h1, h2⟩
    · rcases merge_inv hi' with g1 | ⟨g1, g2⟩
      · exact hk.ownm id i es hl h1 hg id' i' g1 hb hne
      · have := (h.new_ge g1 g2).2.2
        have := (hk.dom id i h1).2
        omega
    · have hn := h.new_ge h1 h2
      rcases merge_inv hi' with g1 | ⟨g1, g2⟩
      · have := (hk.dom id' i' g1).2
        omega
      · have hn' := h.new_ge g1 g2
        exact h.rel.ownm id i es hn.1 h2 ((hag id hn.2.1).map hg) id' i' g2 hb ((hag id' hn'.2.1).live hne)

omit [Gl] in
theorem g1_all (d : D) (x : Blk) : gM1 d (N8.all x) = x := by cases d <;> rfl
omit [Gl] in
theorem g2_all (d : D) (x : M1) : gM2 d (N8.all x) = x := by cases d <;> rfl
omit [Gl] in
theorem g3_all (d : D) (x : M2) : gM3 d (N8.all x) = x := by cases d <;> rfl
omit [Gl] in
theorem g4_all (d : D) (x : M3) : gM4 d (N8.all x) = x := by cases d <;> rfl
omit [Gl] in
theorem g5_all (d : D) (x : M4) : gM5 d (N8.all x) = x := by cases d <;> rfl

omit [Gl] in
theorem M.nil_get (id : Nat) : M.nil.get id = .none := by
  unfold M.get M.nil
  cases Nat.blt id 32768 with
  | true => show M5.get _ id = _; unfold M5.get; rw [g5_all, g4_all, g3_all, g2_all, g1_all]
  | false => rfl

omit [Gl] in
theorem nil_not {id : Nat} {b : Blk} (h : M.nil.get id = b) (hb : b ≠ .none) : False := hb (by rw [← h, M.nil_get])

/-- Nothing is known of any block. -/
theorem Rel.blank {n : Nat} (hp : Pins m) (hd : ∀ id i, m id = some i → id < n ∧ i.blk < w.heap.size) : Rel lo m ⟨M.nil, n⟩ w := by
  refine ⟨hp, hd, ?_, ?_, ?_, ?_⟩
  · intro id i cs rw' anc hi h
    exact (nil_not h (by simp)).elim
  · intro id i es hi h
    exact (nil_not h (by simp)).elim
  · intro id i cs anc _ hi h
    exact (nil_not h (by simp)).elim
  · intro id i es _ hi h
    exact (nil_not h (by simp)).elim

omit [Gl] in
mutual
/-- A value that reads in the smaller map, and reads in the greater. -/
theorem VR.restrict {m m' : Mp} (h : Le m m') : ∀ (v : V) (cv cv' : Value), VR m v cv → VR m' v cv' → VR m v cv'
  | .bool _, _, _, _, h2 => by simpa only [VR] using h2
  | .int .., _, _, _, h2 => by simpa only [VR] using h2
  | .str _, _, _, _, h2 => by simpa only [VR] using h2
  | .nilptr, _, _, _, h2 => by simpa only [VR] using h2
  | .ptr .., _, _, h1, h2 => by
    simp only [VR] at h1 h2 ⊢
    obtain ⟨i, hi, _⟩ := h1
    obtain ⟨j, hj, q⟩ := h2
    have := h _ _ hi
    rw [this] at hj; cases hj
    exact ⟨i, hi, q⟩
  | .nilsl, _, _, _, h2 => by simpa only [VR] using h2
  | .slice .., _, _, h1, h2 => by
    simp only [VR] at h1 h2 ⊢
    obtain ⟨i, _, _, hi, _⟩ := h1
    obtain ⟨j, a, c, hj, q⟩ := h2
    have := h _ _ hi
    rw [this] at hj; cases hj
    exact ⟨i, a, c, hi, q⟩
  | .nilmap, _, _, _, h2 => by simpa only [VR] using h2
  | .map _, _, _, h1, h2 => by
    simp only [VR] at h1 h2 ⊢
    obtain ⟨i, hi, _⟩ := h1
    obtain ⟨j, hj, q⟩ := h2
    have := h _ _ hi
    rw [this] at hj; cases hj
    exact ⟨i, hi, q⟩
  | .func _ fs cs, _, _, h1, h2 => by
    simp only [VR] at h1 h2 ⊢
    obtain ⟨a, b, _, p1, p2⟩ := h1
    obtain ⟨a', b', q, p3, p4⟩ := h2
    exact ⟨a', b', q, VRs.restrict h fs _ _ p1 p3, VRs.restrict h cs _ _ p2 p4⟩
  | .nilFunc, _, _, _, h2 => by simpa only [VR] using h2
  | .iface _ x, _, _, h1, h2 => by
    simp only [VR] at h1 h2 ⊢
    obtain ⟨y, _, p1⟩ := h1
    obtain ⟨y', q, p2⟩ := h2
    exact ⟨y', q, VR.restrict h x _ _ p1 p2⟩
  | .nilIface, _, _, _, h2 => by simpa only [VR] using h2
  | .agg cs, _, _, h1, h2 => by
    simp only [VR] at h1 h2 ⊢
    obtain ⟨a, _, p1⟩ := h1
    obtain ⟨a', q, p2⟩ := h2
    exact ⟨a', q, VRs.restrict h cs _ _ p1 p2⟩
  | .tuple cs, _, _, h1, h2 => by
    simp only [VR] at h1 h2 ⊢
    obtain ⟨a, _, p1⟩ := h1
    obtain ⟨a', q, p2⟩ := h2
    exact ⟨a', q, VRs.restrict h cs _ _ p1 p2⟩
theorem VRs.restrict {m m' : Mp} (h : Le m m') : ∀ (l : List V) (cl cl' : List Value), VRs m l cl → VRs m' l cl' → VRs m l cl'
  | [], _, _, _, h2 => by simpa only [VRs] using h2
  | x :: xs, _, _, h1, h2 => by
    simp only [VRs] at h1 h2 ⊢
    obtain ⟨y, ys, _, p1, p2⟩ := h1
    obtain ⟨y', ys', q, p3, p4⟩ := h2
    exact ⟨y', ys', q, VR.restrict h x _ _ p1 p3, VRs.restrict h xs _ _ p2 p4⟩
end

end

end Go.Vm

/- Drawing regions: an append among operations that it is not ordered with. -/
namespace Go.Vm
variable [Gl]

omit [Gl] in
theorem Sim.cells_fwd {b b' : Blk} (h : Sim b b') {cs : List V} {rw' : Bool} {anc : List Nat} (hb : b = .cells cs rw' anc) : ∃ rw1 anc1, b' = .cells cs rw1 anc1 := by
  rcases h with rfl | ⟨cs', anc', h1, h2⟩
  · exact ⟨rw', anc, hb⟩
  · rw [hb] at h1; cases h1; exact ⟨false, [], h2⟩
omit [Gl] in
theorem Sim.map_fwd {b b' : Blk} (h : Sim b b') {es : List (V × V)} (hb : b = .map es) : b' = .map es := by
  rcases h with rfl | ⟨cs', anc', h1, _⟩
  · exact hb
  · rw [hb] at h1; cases h1
omit [Gl] in
theorem Sim.live_fwd {b b' : Blk} (h : Sim b b') (hb : b ≠ .none) : b' ≠ .none := by
  rcases h with rfl | ⟨cs', anc', h1, rfl⟩
  · exact hb
  · simp

omit [Gl] in
theorem MapR.restrict {m m' : Mp} (h : Le m m') {es : List (V × V)} {ces ces' : List MapEntry} (h1 : MapR m es ces) (h2 : MapR m' es ces') : MapR m es ces' :=
  ⟨h2.1, fun j k v hj =>
    let ⟨_e, _, p1, p2⟩ := h1.2 j k v hj
    let ⟨e', q0, q1, q2⟩ := h2.2 j k v hj
    ⟨e', q0, VR.restrict h _ _ _ p1 q1, VR.restrict h _ _ _ p2 q2⟩⟩

section
variable {lo : Nat} {m m1 mi : Mp} {σi σ1 σk : St} {w w1 : World}

/-- A view of the memory from before the step. -/
theorem Rel.before (hk : Rel lo m σk w) (hle : Le m m1) (hr : Rel lo m1 σ1 w1) (hx : Ext lo mi σi w m1 σ1 w1) (hag : ∀ id i, m id = some i → Sim (σk.mem.get id) (σ1.mem.get id)) : Rel lo m σk w1 where
  pins := hk.pins
  dom := fun id i hi => ⟨(hk.dom id i hi).1, Nat.lt_of_lt_of_le (hk.dom id i hi).2 hx.size⟩
  cell := fun id i cs rw' anc hi hg j v hv => by
    obtain ⟨r1, a1, h1⟩ := (hag id i hi).cells_fwd hg
    obtain ⟨cv, q1, q2⟩ := hr.cell id i cs r1 a1 (hle id i hi) h1 j v hv
    obtain ⟨cv0, _, p2⟩ := hk.cell id i cs rw' anc hi hg j v hv
    exact ⟨cv, q1, VR.restrict hle _ _ _ p2 q2⟩
  mp := fun id i es hi hg => by
    obtain ⟨ces, cl, q1, q2⟩ := hr.mp id i es (hle id i hi) ((hag id i hi).map_fwd hg)
    obtain ⟨ces0, cl0, _, p2⟩ := hk.mp id i es hi hg
    exact ⟨ces, cl, q1, p2.restrict hle q2⟩
  own := fun id i cs anc hl hi hg => by
    have ow := hk.own id i cs anc hl hi hg
    obtain ⟨c, e, h1, h2⟩ := ow.row
    obtain ⟨c', h3, h4⟩ := hx.rows _ c e h1
    exact ⟨ow.fit, ⟨c', e, h3, by rw [h4]; exact h2⟩, ow.only, ow.anc⟩
  ownm := hk.ownm

/-- A step that may move a row on. -/
structure Semi (lo : Nat) (m mi : Mp) (σi : St) (w : World) (m1 : Mp) (σ1 : St) (w1 : World) : Prop where
  ext : Ext lo mi σi w m1 σ1 w1
  rel : Rel lo m1 σ1 w1
  lt : ∀ id, id < σi.next → mi id = m id
  ge : ∀ id, σi.next ≤ id → mi id = none
  free : ∀ id, σi.next ≤ id → id < σ1.next → m id = none

theorem Semi.lo1 (h : Semi lo m mi σi w m1 σ1 w1) {id : Nat} (hid : id < σi.next) : m1 id = m id := by
  rw [← h.lt id hid]
  cases hm : mi id with
  | none => exact h.ext.newd id hid hm
  | some i => exact h.ext.le id i hm

theorem Semi.le1 (h : Semi lo m mi σi w m1 σ1 w1) : Le m1 (merge m m1) := fun id i hi => by
  cases hm : m id with
  | none => rw [merge_right hm]; exact hi
  | some j =>
    rw [merge_left hm]
    rcases Nat.lt_or_ge id σi.next with h1 | h1
    · rw [h.lo1 h1, hm] at hi; exact hi
    · have := h.free id h1 (h.rel.dom id i hi).1
      rw [hm] at this; cases this

theorem Semi.new_ge (h : Semi lo m mi σi w m1 σ1 w1) {id : Nat} {i : Info} (hm : m id = none) (hi : m1 id = some i) : σi.next ≤ id ∧ id < σ1.next ∧ (w.heap.size ≤ i.blk ∨ Owned lo mi σi i.blk) := by
  have hge : σi.next ≤ id := by
    rcases Nat.lt_or_ge id σi.next with h1 | h1
    · rw [h.lo1 h1, hm] at hi; cases hi
    · exact h1
  exact ⟨hge, (h.rel.dom id i hi).1, h.ext.fresh id i hi (h.ge id hge)⟩

/-- What is known of a number: from before and below; new; or above. -/
theorem Semi.cases (h : Semi lo m mi σi w m1 σ1 w1) {id : Nat} {i : Info} (hi : merge m m1 id = some i) : (m1 id = some i ∧ id < σ1.next) ∨ (m id = some i ∧ σ1.next ≤ id ∧ m1 id = none) := by
  rcases Nat.lt_or_ge id σ1.next with h1 | h1
  · left
    refine ⟨?_, h1⟩
    rcases merge_inv hi with h2 | ⟨h2, h3⟩
    · rcases Nat.lt_or_ge id σi.next with h4 | h4
      · rw [h.lo1 h4]; exact h2
      · have := h.free id h4 h1
        rw [h2] at this; cases this
    · exact h3
  · right
    have hn : m1 id = none := by
      cases hm : m1 id with
      | none => rfl
      | some j => have := (h.rel.dom id j hm).1; omega
    rcases merge_inv hi with h2 | ⟨h2, h3⟩
    · exact ⟨h2, h1, hn⟩
    · rw [hn] at h3; cases h3

/-- What may be written after it, of what lay there, could be written before. -/
theorem Semi.was (h : Semi lo m mi σi w m1 σ1 w1) (_hs : ∀ id, id < σi.next → Sim (σi.mem.get id) (σ1.mem.get id)) {id : Nat} {i : Info} (hl : lo ≤ id) (hi : m1 id = some i) (hlt : i.blk < w.heap.size)
    (hor : (∃ cs anc, σ1.mem.get id = .cells cs true anc) ∨ ∃ es, σ1.mem.get id = .map es) : Owned lo mi σi i.blk :=
  h.ext.own _ hlt ⟨id, i, hl, hi, rfl, hor⟩

theorem Rel.after (hk : Rel lo m σk w) (h : Semi lo m mi σi w m1 σ1 w1) (hag : ∀ id, id < σ1.next → Sim (σ1.mem.get id) (σk.mem.get id)) (hle : σ1.next ≤ σk.next)
    (hsep : ∀ id i, m id = some i → σ1.next ≤ id → ¬ Owned lo mi σi i.blk) : Rel lo (merge m m1) σk w1 where
  pins := hk.pins.mono (Le.merge _ _)
  dom := fun id i hi => by
    rcases h.cases hi with ⟨h1, h2⟩ | ⟨h1, _, _⟩
    · exact ⟨Nat.lt_of_lt_of_le h2 hle, (h.rel.dom id i h1).2⟩
    · exact ⟨(hk.dom id i h1).1, Nat.lt_of_lt_of_le (hk.dom id i h1).2 h.ext.size⟩
  cell := fun id i cs rw' anc hi hg j v hv => by
    rcases h.cases hi with ⟨h1, h2⟩ | ⟨h1, h2, _⟩
    · obtain ⟨r1, a1, hg1⟩ := (hag id h2).cells hg
      obtain ⟨cv, q1, q2⟩ := h.rel.cell id i cs r1 a1 h1 hg1 j v hv
      exact ⟨cv, q1, VR.mono h.le1 _ _ q2⟩
    · obtain ⟨cv, q1, q2⟩ := hk.cell id i cs rw' anc h1 hg j v hv
      refine ⟨cv, ?_, VR.mono (Le.merge _ _) _ _ q2⟩
      rw [World.cell?_of_block (a := ⟨i.blk, i.base + j, none⟩) (h.ext.frame i.blk (hk.dom id i h1).2 (hsep id i h1 h2))]
      exact q1
  mp := fun id i es hi hg => by
    rcases h.cases hi with ⟨h1, h2⟩ | ⟨h1, h2, _⟩
    · obtain ⟨ces, cl, q1, q2⟩ := h.rel.mp id i es h1 ((hag id h2).map hg)
      exact ⟨ces, cl, q1, q2.mono h.le1⟩
    · obtain ⟨ces, cl, q1, q2⟩ := hk.mp id i es h1 hg
      exact ⟨ces, cl, by rw [h.ext.frame i.blk (hk.dom id i h1).2 (hsep id i h1 h2)]; exact q1, q2.mono (Le.merge _ _)⟩
  own := fun id i cs anc hl hi hg => by
    rcases h.cases hi with ⟨h1, h2⟩ | ⟨h1, h2, h3⟩
    · have hg1 := (hag id h2).rw_true hg
      have ow := h.rel.own id i cs anc hl h1 hg1
      refine ⟨ow.fit, ow.row, ?_, fun a ha => let ⟨q1, j, q2⟩ := ow.anc a ha; ⟨q1, j, h.le1 _ _ q2⟩⟩
      intro id' i' hi' hb hne
      rcases h.cases hi' with ⟨g1, g2⟩ | ⟨g1, g2, _⟩
      · rcases ow.only id' i' g1 hb ((hag id' g2).live hne) with k1 | ⟨k1, cs', a', k2, k3⟩
        · exact .inl k1
        · exact .inr ⟨k1, cs', a', (hag id' g2).stale k2, k3⟩
      · have hlt := (hk.dom id' i' g1).2
        refine absurd ?_ (hsep id' i' g1 g2)
        rw [hb]
        exact h.ext.own _ (by rw [← hb]; exact hlt) ⟨id, i, hl, h1, rfl, .inl ⟨cs, anc, hg1⟩⟩
    · have ow := hk.own id i cs anc hl h1 hg
      refine ⟨ow.fit, by rw [h.ext.frame i.blk (hk.dom id i h1).2 (hsep id i h1 h2)]; exact ow.row, ?_, fun a ha => let ⟨q1, j, q2⟩ := ow.anc a ha; ⟨q1, j, Le.merge _ _ _ _ q2⟩⟩
      intro id' i' hi' hb hne
      rcases merge_inv hi' with g1 | ⟨g1, g2⟩
      · exact ow.only id' i' g1 hb hne
      · rcases (h.new_ge g1 g2).2.2 with k1 | k1
        · have := (hk.dom id i h1).2
          omega
        · rw [hb] at k1
          exact absurd k1 (hsep id i h1 h2)
  ownm := fun id i es hl hi hg id' i' hi' hb hne => by
    rcases h.cases hi with ⟨h1, h2⟩ | ⟨h1, h2, h3⟩
    · have hg1 := (hag id h2).map hg
      rcases h.cases hi' with ⟨g1, g2⟩ | ⟨g1, g2, _⟩
      · exact h.rel.ownm id i es hl h1 hg1 id' i' g1 hb ((hag id' g2).live hne)
      · have hlt := (hk.dom id' i' g1).2
        refine absurd ?_ (hsep id' i' g1 g2)
        rw [hb]
        exact h.ext.own _ (by rw [← hb]; exact hlt) ⟨id, i, hl, h1, rfl, .inr ⟨es, hg1⟩⟩
    · rcases merge_inv hi' with g1 | ⟨g1, g2⟩
      · exact hk.ownm id i es hl h1 hg id' i' g1 hb hne
      · rcases (h.new_ge g1 g2).2.2 with k1 | k1
        · have := (hk.dom id i h1).2
          omega
        · rw [hb] at k1
          exact absurd k1 (hsep id i h1 h2)

end

end Go.Vm

/- Drawing regions: what the check says; the run in text order. -/
namespace Go.Vm
variable [Gl]

omit [Gl] in
theorem masks_length : ∀ (l : List Oper) (acc : List Nat), (masks l acc).length = acc.length + l.length
  | [], acc => by simp [masks]
  | o :: l, acc => by simp only [masks, masks_length l, List.length_append, List.length_cons, List.length_nil]; omega

omit [Gl] in
theorem masks_take : ∀ (l : List Oper) (acc : List Nat) (j : Nat), j < acc.length → (masks l acc)[j]? = acc[j]?
  | [], acc, j, _ => rfl
  | o :: l, acc, j, hj => by
    simp only [masks]
    rw [masks_take l _ j (by simp; omega), List.getElem?_append_left hj]

omit [Gl] in
theorem masks_get : ∀ (l : List Oper) (acc : List Nat) (j : Nat) (o : Oper), l[j]? = some o → (masks l acc)[acc.length + j]? = some (mask o ((masks l acc).take (acc.length + j)))
  | [], _, _, _, h => by cases h
  | x :: l, acc, 0, o, h => by
    cases h
    simp only [masks, Nat.add_zero]
    have h1 : (masks l (acc ++ [mask x acc])).take acc.length = acc := by
      apply List.ext_getElem?
      intro k
      rw [List.getElem?_take]
      by_cases hk : k < acc.length
      · rw [if_pos hk, masks_take l _ k (by simp; omega), List.getElem?_append_left hk]
      · rw [if_neg hk, List.getElem?_eq_none (by omega)]
    rw [h1, masks_take l _ _ (by simp), List.getElem?_append_right (Nat.le_refl _)]
    simp
  | x :: l, acc, j + 1, o, h => by
    simp only [masks]
    have := masks_get l (acc ++ [mask x acc]) j o (by simpa using h)
    simp only [List.length_append, List.length_cons, List.length_nil, Nat.zero_add, Nat.add_assoc, Nat.add_comm 1 j] at this
    exact this

omit [Gl] in
theorem mask_bit (acc : List Nat) (i : Nat) : ∀ (l : List Edge) (s : Nat),
    (l.foldl (fun s e => if Region.binds .any e then s ||| (2 ^ e.on ||| acc.getD e.on 0) else s) s).testBit i = true →
    s.testBit i = true ∨ ∃ e ∈ l, Region.binds .any e = true ∧ (e.on = i ∨ (acc.getD e.on 0).testBit i = true)
  | [], s, h => .inl h
  | e :: l, s, h => by
    rw [List.foldl_cons] at h
    rcases mask_bit acc i l _ h with h1 | ⟨e', h1, h2, h3⟩
    · by_cases hb : Region.binds .any e = true
      · rw [if_pos hb, Nat.testBit_or, Nat.testBit_or] at h1
        simp only [Bool.or_eq_true] at h1
        rcases h1 with h1 | h1 | h1
        · exact .inl h1
        · rw [Nat.testBit_two_pow] at h1
          exact .inr ⟨e, by simp, hb, .inl (by simpa using h1)⟩
        · exact .inr ⟨e, by simp, hb, .inr h1⟩
      · rw [if_neg hb] at h1; exact .inl h1
    · exact .inr ⟨e', by simp [h1], h2, h3⟩

omit [Gl] in
/-- The operations that stand before one are listed, once it may come. -/
theorem ord_listed {ops : Array Oper} {S : Nat → Prop} (hcl : ∀ j o, S j → ops[j]? = some o → ∀ e ∈ o.after, Region.binds .any e = true → S e.on)
    (hback : ∀ j o, ops[j]? = some o → ∀ e ∈ o.after, Region.binds .any e = true → e.on < j) : ∀ (j : Nat) (i : Nat) (o : Oper), ops[j]? = some o →
    (∀ e ∈ o.after, Region.binds .any e = true → S e.on) → ord (masks ops.toList []) i j = true → S i ∧ i < j := by
  intro j
  induction j using Nat.strongRecOn with
  | _ j ih =>
    intro i o ho hr hord
    have hm := masks_get ops.toList [] j o (by simpa using ho)
    simp only [List.length_nil, Nat.zero_add] at hm
    unfold ord at hord
    rw [List.getD_eq_getElem?_getD, hm, Option.getD_some] at hord
    unfold mask at hord
    rcases mask_bit _ i o.after.toList 0 hord with h1 | ⟨e, h1, h2, h3⟩
    · simp at h1
    · have he := Array.mem_toList_iff.1 h1
      have hlt := hback j o ho e he h2
      have hS := hr e he h2
      rcases h3 with h3 | h3
      · subst h3; exact ⟨hS, hlt⟩
      · have hlj : j < ops.size := (Array.getElem?_eq_some_iff.1 ho).1
        obtain ⟨o', ho'⟩ : ∃ o', ops[e.on]? = some o' := ⟨ops[e.on]'(by omega), by simp⟩
        have h4 : ord (masks ops.toList []) i e.on = true := by
          unfold ord
          rw [List.getD_eq_getElem?_getD]
          rw [List.getD_eq_getElem?_getD, List.getElem?_take, if_pos hlt] at h3
          exact h3
        obtain ⟨g1, g2⟩ := ih e.on hlt i o' ho' (fun e' he' hb' => hcl _ _ hS ho' e' he' hb') h4
        exact ⟨g1, by omega⟩

/-- What is known of a region whose check holds. -/
structure DrawSpec (P : Program) (nt : Nat) (ops : Array Oper) (b : List Nat) (cs : List Nat) : Prop where
  back : ∀ (j : Nat) (o : Oper), ops[j]? = some o → ∀ e ∈ o.after, Region.binds .any e = true → e.on < j
  sel : ∀ (j : Nat) (o : Oper), ops[j]? = some o → ∀ c q, o.op ≠ .select c q
  pair : ∀ (i j : Nat) (x y : Oper) (d : Nat), i ≠ j → ops[i]? = some x → ops[j]? = some y → (cOper P nt ops x).dst = some d →
    (cOper P nt ops y).dst ≠ some d ∧ (d ∈ looks (cOper P nt ops y) y → if i < j then ord b i j = true else ord b j i = true)
  small : ∀ (i : Nat) (o : Oper), ops[i]? = some o → ∀ t ∈ looks (cOper P nt ops o) o, t < 512
  cls : ∀ (i : Nat) (o : Oper), ops[i]? = some o → cs.getD i 0 = Vm.cls (cOper P nt ops o).op
  semi : ∀ i j, Vm.semi b cs i = true → Vm.semi b cs j = true → i ≠ j → i < ops.size → ord b i j = true ∨ ord b j i = true
  heavy : ∀ i j, alone b cs i = true → i ≠ j → j < ops.size → cs.getD j 0 ≠ 0 → ord b i j = true ∨ ord b j i = true

theorem drawOk_spec {P : Program} {nt : Nat} {ops : Array Oper} (h : drawOk (ops.toList.map (cOper P nt ops)) ops.toList (masks ops.toList []) = true) :
    DrawSpec P nt ops (masks ops.toList []) ((ops.toList.map (cOper P nt ops)).map fun o => cls o.op) := by
  unfold drawOk at h
  simp only [Bool.and_eq_true] at h
  obtain ⟨⟨⟨h1, h2⟩, h4⟩, h3⟩ := h
  refine ⟨?_, ?_, ?_, ?_, ?_, ?_, ?_⟩
  · intro j o ho e he hb
    have hj : j < ops.size := (Array.getElem?_eq_some_iff.1 ho).1
    have := List.all_eq_true.1 h1 j (by simpa using hj)
    have ho' : ops.toList[j]? = some o := by simpa using ho
    rw [ho'] at this
    have := List.all_eq_true.1 this e (Array.mem_toList_iff.2 he)
    rw [hb] at this
    simpa [Nat.blt_eq] using this
  · intro j o ho cs b hs
    have ho' : ops.toList[j]? = some o := by simpa using ho
    have := List.all_eq_true.1 h2 o (List.mem_of_getElem? ho')
    rw [hs] at this
    cases this
  · intro i j x y d hij hx hy hd
    have hi : i < ops.size := (Array.getElem?_eq_some_iff.1 hx).1
    have hj : j < ops.size := (Array.getElem?_eq_some_iff.1 hy).1
    have := List.all_eq_true.1 (List.all_eq_true.1 h3 j (by simpa using hj)) i (by simpa using hi)
    unfold pairOk at this
    have hx' : (ops.toList.map (cOper P nt ops))[i]? = some (cOper P nt ops x) := by simp [hx]
    have hy' : (ops.toList.map (cOper P nt ops))[j]? = some (cOper P nt ops y) := by simp [hy]
    have hy2 : ops.toList[j]? = some y := by simpa using hy
    rw [hx', hy', hy2] at this
    have hne : (i == j) = false := by simpa using hij
    simp only [hne, Bool.false_or, hd, Bool.and_eq_true, Bool.or_eq_true] at this
    refine ⟨by simpa using this.1, fun hmem => ?_⟩
    rcases this.2 with h4 | h4
    · simp [hmem] at h4
    · split <;> rename_i hlt
      · simpa [hlt] using h4
      · simpa [hlt] using h4
  · intro j y hy t ht
    have hj : j < ops.size := (Array.getElem?_eq_some_iff.1 hy).1
    have := List.all_eq_true.1 h4 j (by simpa using hj)
    have hy' : (ops.toList.map (cOper P nt ops))[j]? = some (cOper P nt ops y) := by simp [hy]
    have hy2 : ops.toList[j]? = some y := by simpa using hy
    rw [hy', hy2] at this
    have := List.all_eq_true.1 this t ht
    simpa [Nat.blt_eq] using this
  · intro i o ho
    simp [List.getD_eq_getElem?_getD, ho]
  · intro i j hi hj hij hin
    unfold Vm.semi at hi hj
    simp only [Bool.and_eq_true] at hi hj
    have := List.all_eq_true.1 hj.2 i (by simpa using hin)
    simp only [Bool.or_eq_true] at this
    rcases this with ((h5 | h5) | h5) | h5
    · have : i = j := by simpa using h5
      exact absurd this hij
    · have h6 := hi.1.1
      simp only [bne_iff_ne, ne_eq, beq_iff_eq] at h5 h6
      exact absurd h6 h5
    · exact .inr h5
    · exact .inl h5
  · intro i j ha hij hj hc
    unfold alone at ha
    simp only [Bool.and_eq_true] at ha
    have := List.all_eq_true.1 ha.2 j (by simpa using hj)
    simp only [Bool.or_eq_true] at this
    rcases this with ((h4 | h4) | h4) | h4
    · have : j = i := by simpa using h4
      exact absurd this.symm hij
    · have : (List.map (fun o => Vm.cls o.op) (List.map (cOper P nt ops) ops.toList)).getD j 0 = 0 := by simpa using h4
      exact absurd this hc
    · exact .inl h4
    · exact .inr h4

end Go.Vm

/- Drawing regions: the run in text order. -/
namespace Go.Vm
variable [Gl]

section
variable {P : Program} {lo nt : Nat} {ev : Ev} {ops : Array Oper}

/-- One step of the run in text order. -/
structure StepOk (P : Program) (nt : Nat) (ops : Array Oper) (lo : Nat) (o : Oper) (fl sm : Bool) (nz : Nat) (mz : Mp) (e e' : E) (σ σ' : St) (v : V) : Prop where
  dst : okDst nt o.dst = true
  form : ∃ g, cGuard ops o = some g ∧ cOper P nt ops o = { dst := o.dst, op := (cOp P o).getD .bad, guard := g }
  put : e' = putE o.dst v e
  does : (wanted (cOper P nt ops o).guard e = true ∧ (∃ ao, cOp P o = some ao) ∧ OpR P (cond (fl || sm) lo σ.next) (cOper P nt ops o).op e σ v σ') ∨ (wanted (cOper P nt ops o).guard e = false ∧ v = undefV ∧ σ' = σ)
  next : σ.next ≤ σ'.next ∧ True
  keep : fl = false → ∀ id, id < σ.next → Sim (σ.mem.get id) (σ'.mem.get id)
  keepA : fl = false → ∀ id, id < nz → (id < lo ∨ mz id = none) → σ'.mem.get id = σ.mem.get id

theorem light_of {lo : Nat} {m m' : Mp} {σ σ' : St} {w w' : World} (hR : Rel lo m σ w) (h1 : Rel σ.next m' σ' w') (h2 : Ext σ.next m σ w m' σ' w') : Light m m σ w m' σ' w' :=
  ⟨h2, h1, fun _ _ => rfl, fun id hid => by
    cases hm : m id with
    | none => rfl
    | some i => have := (hR.dom id i hm).1; omega, fun id hid _ => by
    cases hm : m id with
    | none => rfl
    | some i => have := (hR.dom id i hm).1; omega⟩

/-- With nothing to be written. -/
theorem Rel.own_none {lo : Nat} {m : Mp} {σ : St} {w : World} (hR : Rel lo m σ w) : Rel σ.next m σ w :=
  ⟨hR.pins, hR.dom, hR.cell, hR.mp, fun id i _ _ hl hi _ => by have := (hR.dom id i hi).1; omega, fun id i _ hl hi _ => by have := (hR.dom id i hi).1; omega⟩

theorem run_of (hn : nt ≤ 512) (nz : Nat) (mz : Mp) (e2 : E) (σ2 : St) : ∀ (l : List (Oper × Bool × Bool)) (e : E) (σ : St) (m : Mp) (a : Act) (w : World),
    DrawsR P lo (l.map fun x => (x.2.1 || x.2.2, (cOper P nt ops x.1).asF x.2.2)) e σ e2 σ2 → (∀ x ∈ l, x.2.2 = true → x.2.1 = false ∧ cls (cOper P nt ops x.1).op = 2) →
    ER m e a → Rel lo m σ w → a.tmps.size = nt → nz ≤ σ.next → (∀ id, id < nz → mz id = none → m id = none) →
    ∃ (es : Nat → E) (ss : Nat → St) (vs : Nat → V), es 0 = e ∧ ss 0 = σ ∧ (e2 = es l.length ∧ σ2 = ss l.length) ∧
      ∀ (i : Nat) (x : Oper × Bool × Bool), l[i]? = some x → StepOk P nt ops lo x.1 x.2.1 x.2.2 nz mz (es i) (es (i + 1)) (ss i) (ss (i + 1)) (vs i)
  | [], e, σ, m, a, w, h, _, _, _, _, _, _ => ⟨fun _ => e, fun _ => σ, fun _ => undefV, rfl, rfl, h, fun i x hx => by cases hx⟩
  | (o, fl, sm) :: l, e, σ, m, a, w, h, hsm, hE, hR, hs, hnz, hmz => by
    rw [List.map_cons] at h
    unfold DrawsR at h
    simp only at h
    rcases cOper_spec (P := P) (nt := nt) (ops := ops) (o := o) with hcase | hc
    case inr =>
      rw [hc] at h
      have hasf : AOper.asF sm ({ dst := none, op := .bad, guard := none } : AOper) = { dst := none, op := .bad, guard := none } := by cases sm <;> rfl
      rw [hasf] at h
      rcases h with ⟨_, v, σ1, ⟨ev, _, hr⟩, _⟩ | ⟨hwt, _⟩
      · cases hr
      · cases hwt
    obtain ⟨g, hdst, hgd, hc⟩ := hcase
    have build : ∀ (v : V) (σ' : St) (m' : Mp) (a' : Act) (w' : World), DrawsR P lo (l.map fun x => (x.2.1 || x.2.2, (cOper P nt ops x.1).asF x.2.2)) (putE o.dst v e) σ' e2 σ2 → ER m' (putE o.dst v e) a' → Rel lo m' σ' w' → a'.tmps.size = nt →
        nz ≤ σ'.next → (∀ id, id < nz → mz id = none → m' id = none) → StepOk P nt ops lo o fl sm nz mz e (putE o.dst v e) σ σ' v →
        ∃ (es : Nat → E) (ss : Nat → St) (vs : Nat → V), es 0 = e ∧ ss 0 = σ ∧ (e2 = es (l.length + 1) ∧ σ2 = ss (l.length + 1)) ∧
          ∀ (i : Nat) (x : Oper × Bool × Bool), ((o, fl, sm) :: l)[i]? = some x → StepOk P nt ops lo x.1 x.2.1 x.2.2 nz mz (es i) (es (i + 1)) (ss i) (ss (i + 1)) (vs i) := by
      intro v σ' m' a' w' h' hE' hR' hs' hnz' hmz' hst
      obtain ⟨es, ss, vs, h1, h2, h3, h4⟩ := run_of hn nz mz e2 σ2 l _ σ' m' a' w' h' (fun x hx => hsm x (by simp [hx])) hE' hR' hs' hnz' hmz'
      refine ⟨fun i => match i with | 0 => e | i + 1 => es i, fun i => match i with | 0 => σ | i + 1 => ss i, fun i => match i with | 0 => v | i + 1 => vs i, rfl, rfl, h3, ?_⟩
      intro i x hx
      cases i with
      | zero =>
        cases hx
        show StepOk P nt ops lo o fl sm nz mz e (es 0) σ (ss 0) v
        rw [h1, h2]; exact hst
      | succ i => exact h4 i x (by simpa using hx)
    have hgs : ((cOper P nt ops o).asF sm).guard = g := by rw [hc]; cases sm <;> rfl
    have hds : ((cOper P nt ops o).asF sm).dst = o.dst := by rw [hc]; cases sm <;> rfl
    rw [hgs, hds] at h
    rcases h with ⟨hwt, v, σ', ⟨ev, hev, hr⟩, h'⟩ | ⟨hwt, h'⟩
    · have hdo : evOp (cOper P nt ops o).op ev (cond (fl || sm) lo σ.next) e σ = .v v σ' ∧ (sm = true → ∃ x, Leaves' lo (opd x e) σ σ') := by
        cases sm with
        | false => exact ⟨hr, fun hh => by cases hh⟩
        | true =>
          obtain ⟨q1, q2⟩ := hsm (o, fl, true) (by simp) rfl
          simp only at q1
          subst q1
          obtain ⟨k1, x, _, k2⟩ := toF_ok (hr : evOp (toF (cOper P nt ops o).op) ev lo e σ = .v v σ') q2
          exact ⟨k1, fun _ => ⟨x, k2⟩⟩
      obtain ⟨hdoes, hleaves⟩ := hdo
      cases hco : cOp P o with
      | none =>
        rw [hc, hco] at hdoes
        cases hdoes
      | some ao =>
        have hda : evOp ao ev (cond (fl || sm) lo σ.next) e σ = .v v σ' := by
          have := hdoes
          rw [hc, hco] at this
          exact this
        cases hfs : (fl || sm) with
        | true =>
          rw [hfs] at hda
          obtain ⟨cv, m', w', g1, g2, g3⟩ := (op_sim hev hco hE hR (hda : evOp ao ev lo e σ = .v v σ')).fact
          refine build v σ' m' (a.put o.dst cv) w' h' (ER.putE (hE.mono g3.le) hs hn hdst g1) g2 (by rw [Act.put_size]; exact hs) (Nat.le_trans hnz g3.next)
            (fun id hid hm0 => g3.newd id (by omega) (hmz id hid hm0)) ⟨hdst, ⟨g, hgd, hc⟩, rfl, .inl ⟨by rw [hc]; exact hwt, ⟨ao, hco⟩, ev, hev, hdoes⟩, ⟨g3.next, trivial⟩, fun hf => ?_, fun hf id hid hor => g3.abs id (by omega) (hor.imp (fun x => x) (hmz id hid))⟩
          have hsm' : sm = true := by rw [hf] at hfs; simpa using hfs
          obtain ⟨x, hx⟩ := hleaves hsm'
          exact leaves_sim hx
        | false =>
          rw [hfs] at hda
          obtain ⟨cv, m', w', g1, g2, g3⟩ := (op_sim hev hco hE hR.own_none (hda : evOp ao ev σ.next e σ = .v v σ')).fact
          have hl := light_of hR g2 g3
          have hkeep : ∀ id, id < σ.next → σ'.mem.get id = σ.mem.get id := fun id hid => g3.abs id hid (.inl hid)
          have hR2 : Rel lo m σ' w := hR.agree (fun id hid => .inl (hkeep id hid)) trivial g3.next
          have hj := hR2.join hl (fun _ _ => Sim.refl _) (Nat.le_refl _)
          refine build v σ' (merge m m') (a.put o.dst cv) w' h' (ER.putE (hE.mono (Le.merge _ _)) hs hn hdst (VR.mono hl.le1 _ _ g1)) hj (by rw [Act.put_size]; exact hs) (Nat.le_trans hnz g3.next)
            (fun id hid hm0 => by rw [merge_right (hmz id hid hm0)]; exact g3.newd id (by omega) (hmz id hid hm0))
            ⟨hdst, ⟨g, hgd, hc⟩, rfl, .inl ⟨by rw [hc]; exact hwt, ⟨ao, hco⟩, ev, hev, hdoes⟩, ⟨g3.next, trivial⟩, fun _ id hid => .inl (hkeep id hid), fun _ id hid _ => hkeep id (by omega)⟩
    · exact build undefV σ m (a.put o.dst undef) w h' (ER.putE hE hs hn hdst (VR_undef m)) hR (by rw [Act.put_size]; exact hs) hnz hmz
        ⟨hdst, ⟨g, hgd, hc⟩, rfl, .inr ⟨by rw [hc]; exact hwt, rfl, rfl⟩, ⟨Nat.le_refl _, trivial⟩, fun _ id _ => Sim.refl _, fun _ _ _ _ => rfl⟩

end

end Go.Vm

/- Drawing regions: any order that is allowed. -/
namespace Go.Vm
variable [Gl]

/-- A slot's trimmed copies. -/
noncomputable def pick (L : List Nat) (e : E) : E := L.foldl (fun r t => r.set t (e.get t)) E.nil

omit [Gl] in
theorem pick_get_aux (e : E) : ∀ (L : List Nat) (r : E) (t : Nat), (∀ x ∈ L, x < 512) → t < 512 → (L.foldl (fun r t => r.set t (e.get t)) r).get t = if t ∈ L then e.get t else r.get t
  | [], r, t, _, _ => by simp
  | x :: L, r, t, hL, ht => by
    rw [List.foldl_cons, pick_get_aux e L _ t (fun y hy => hL y (by simp [hy])) ht]
    by_cases h1 : t ∈ L
    · simp [h1]
    · by_cases h2 : t = x
      · subst h2; simp [h1, E.get_set]
      · rw [if_neg h1, E.get_set_ne r _ ht (hL x (by simp)) h2, if_neg (by simp [h1, h2])]

omit [Gl] in
theorem pick_get (L : List Nat) (e : E) (hL : ∀ x ∈ L, x < 512) (t : Nat) (ht : t < 512) : (pick L e).get t = if t ∈ L then e.get t else undefV := by
  unfold pick
  rw [pick_get_aux e L _ t hL ht, E.nil_get t ht]

def Act.pick (L : List Nat) (a : Act) : Act := { a with tmps := a.tmps.mapIdx fun t v => if t ∈ L then v else undef }

omit [Gl] in
theorem Act.pick_get (L : List Nat) (a : Act) (t : Nat) : (Act.pick L a).tmps.getD t undef = if t ∈ L then a.tmps.getD t undef else undef := by
  unfold Act.pick
  simp only [Array.getD_eq_getD_getElem?, Array.getElem?_mapIdx]
  cases h : a.tmps[t]? with
  | none => simp
  | some v => simp

/-- All that holds through a drawing region. -/
structure Ctx where
  P : Program
  nt : Nat
  ops : Array Oper
  lo : Nat
  es : Nat → E
  ss : Nat → St
  vs : Nat → V
  m0 : Mp
  w0 : World

def Ctx.b (C : Ctx) : List Nat := masks C.ops.toList []
def Ctx.cs (C : Ctx) : List Nat := (C.ops.toList.map (cOper C.P C.nt C.ops)).map fun o => cls o.op
def Ctx.fl (C : Ctx) (i : Nat) : Bool := alone C.b C.cs i
def Ctx.sm (C : Ctx) (i : Nat) : Bool := semi C.b C.cs i
def Ctx.np (C : Ctx) (i : Nat) : Prop := C.cs.getD i 0 ≠ 0

structure Ctx.Ok (C : Ctx) : Prop where
  nt : C.nt ≤ 512
  spec : DrawSpec C.P C.nt C.ops C.b C.cs
  step : ∀ i o, C.ops[i]? = some o → StepOk C.P C.nt C.ops C.lo o (C.fl i) (C.sm i) (C.ss 0).next C.m0 (C.es i) (C.es (i + 1)) (C.ss i) (C.ss (i + 1)) (C.vs i)
  zero : ∀ g, g < Gl.ng → g < (C.ss 0).next

section
variable {C : Ctx}

omit [Gl] in
theorem op_at {i : Nat} (h : i < C.ops.size) : ∃ o, C.ops[i]? = some o := ⟨C.ops[i], by simp [h]⟩
omit [Gl] in
theorem op_lt {i : Nat} {o : Oper} (h : C.ops[i]? = some o) : i < C.ops.size := (Array.getElem?_eq_some_iff.1 h).1

theorem Ctx.Ok.next_le (h : C.Ok) (i : Nat) : ∀ j, i ≤ j → j ≤ C.ops.size → (C.ss i).next ≤ (C.ss j).next := by
  intro j hij hj
  induction j with
  | zero => have : i = 0 := by omega
            subst this; exact Nat.le_refl _
  | succ j ih =>
    rcases Nat.lt_or_ge j i with h1 | h1
    · have : i = j + 1 := by omega
      subst this; exact Nat.le_refl _
    · obtain ⟨o, ho⟩ := op_at (C := C) (i := j) (by omega)
      exact Nat.le_trans (ih h1 (by omega)) (h.step j o ho).next.1

theorem Ctx.Ok.next_top (_h : C.Ok) (i : Nat) (_hi : i ≤ C.ops.size) : True := by
  trivial

theorem Ctx.Ok.keep (h : C.Ok) (i : Nat) : ∀ j, i ≤ j → j ≤ C.ops.size → (∀ k, i ≤ k → k < j → C.fl k = false) → ∀ id, id < (C.ss i).next → Sim ((C.ss i).mem.get id) ((C.ss j).mem.get id) := by
  intro j
  induction j with
  | zero => intro hij _ _ id _
            have : i = 0 := by omega
            subst this; exact Sim.refl _
  | succ j ih =>
    intro hij hj hk id hid
    rcases Nat.lt_or_ge j i with h1 | h1
    · have : i = j + 1 := by omega
      subst this; exact Sim.refl _
    · obtain ⟨o, ho⟩ := op_at (C := C) (i := j) (by omega)
      exact (ih h1 (by omega) (fun k h2 h3 => hk k h2 (by omega)) id hid).trans ((h.step j o ho).keep (hk j h1 (by omega)) id (Nat.lt_of_lt_of_le hid (h.next_le i j h1 (by omega))))

theorem Ctx.Ok.keepA (h : C.Ok) (i : Nat) : ∀ j, i ≤ j → j ≤ C.ops.size → (∀ k, i ≤ k → k < j → C.fl k = false) → ∀ id, id < (C.ss 0).next → (id < C.lo ∨ C.m0 id = none) → (C.ss j).mem.get id = (C.ss i).mem.get id := by
  intro j
  induction j with
  | zero => intro hij _ _ id _ _
            have : i = 0 := by omega
            subst this; rfl
  | succ j ih =>
    intro hij hj hk id hid hor
    rcases Nat.lt_or_ge j i with h1 | h1
    · have : i = j + 1 := by omega
      subst this; rfl
    · obtain ⟨o, ho⟩ := op_at (C := C) (i := j) (by omega)
      rw [(h.step j o ho).keepA (hk j h1 (by omega)) id hid hor]
      exact ih h1 (by omega) (fun k h2 h3 => hk k h2 (by omega)) id hid hor

theorem Ctx.Ok.dst_lt (h : C.Ok) {i d : Nat} {o : Oper} (ho : C.ops[i]? = some o) (hd : o.dst = some d) : d < C.nt := by
  have := (h.step i o ho).dst
  rw [hd] at this
  exact okDst_lt this

theorem Ctx.Ok.dst_eq (h : C.Ok) {i : Nat} {o : Oper} (ho : C.ops[i]? = some o) : (cOper C.P C.nt C.ops o).dst = o.dst := by
  obtain ⟨g, _, hc⟩ := (h.step i o ho).form
  rw [hc]

omit [Gl] in
theorem putE_get {d : Option Nat} {v : V} {e : E} {t : Nat} (ht : t < 512) (hd : ∀ x, d = some x → x < 512) : (putE d v e).get t = if d = some t then v else e.get t := by
  cases d with
  | none => rfl
  | some x =>
    show (e.set x v).get t = _
    by_cases hx : t = x
    · subst hx; rw [E.get_set]; simp
    · rw [E.get_set_ne e v ht (hd x rfl) hx, if_neg (by simp; omega)]

/-- A slot that was set before. -/
theorem Ctx.Ok.es_set (h : C.Ok) {d : Nat} {o : Oper} (ho : C.ops[d]? = some o) {t : Nat} (ht : t < 512) (hd : o.dst = some t) : ∀ j, d < j → j ≤ C.ops.size → (C.es j).get t = C.vs d := by
  intro j
  induction j with
  | zero => intro h1; omega
  | succ j ih =>
    intro h1 h2
    obtain ⟨p, hp⟩ := op_at (C := C) (i := j) (by omega)
    have hs := h.step j p hp
    rw [hs.put, putE_get ht (fun x hx => Nat.lt_of_lt_of_le (h.dst_lt hp hx) h.nt)]
    by_cases hj : j = d
    · subst hj
      rw [hp] at ho; cases ho
      rw [if_pos hd]
    · have hne := (h.spec.pair d j o p t (Ne.symm hj) ho hp (by rw [h.dst_eq ho]; exact hd)).1
      rw [h.dst_eq hp] at hne
      rw [if_neg hne]
      exact ih (by omega) (by omega)

/-- A slot that was not set. -/
theorem Ctx.Ok.es_old (h : C.Ok) {t : Nat} (ht : t < 512) : ∀ j, j ≤ C.ops.size → (∀ d o, d < j → C.ops[d]? = some o → o.dst ≠ some t) → (C.es j).get t = (C.es 0).get t := by
  intro j
  induction j with
  | zero => intro _ _; rfl
  | succ j ih =>
    intro h2 hno
    obtain ⟨p, hp⟩ := op_at (C := C) (i := j) (by omega)
    have hs := h.step j p hp
    rw [hs.put, putE_get ht (fun x hx => Nat.lt_of_lt_of_le (h.dst_lt hp hx) h.nt), if_neg (hno j p (by omega) hp)]
    exact ih (by omega) (fun d o hd ho => hno d o (by omega) ho)

/-- What holds when those of S have run. -/
structure Inv (C : Ctx) (S : Nat → Prop) (a : Act) (w : World) (m : Mp) (s F : Nat) : Prop where
  size : a.tmps.size = C.nt
  defers : a.defers = []
  closed : ∀ j o, S j → C.ops[j]? = some o → ∀ e ∈ o.after, Region.binds .any e = true → S e.on
  sF : s ≤ F
  Fn : F ≤ C.ops.size
  seg : ∀ k, s ≤ k → k < F → C.fl k = false
  top : F < C.ops.size → C.fl F = true ∧ ¬ S F
  done : ∀ i, i < s → C.np i → S i
  notyet : ∀ i, F ≤ i → i < C.ops.size → C.np i → ¬ S i
  rel : ∀ k, s ≤ k → k ≤ F → Rel C.lo (cut (C.ss k).next m) (C.ss k) w
  free : ∀ i, s ≤ i → i < F → ¬ S i → ∀ id, (C.ss i).next ≤ id → id < (C.ss (i + 1)).next → m id = none
  sep : ∀ i', s ≤ i' → i' < F → S i' → C.np i' → C.sm i' = false → ∀ id' j', (C.ss i').next ≤ id' → id' < (C.ss (i' + 1)).next → m id' = some j' → ∀ id j, id < (C.ss i').next → m id = some j → j.blk ≠ j'.blk
  was : ∀ k, s ≤ k → k ≤ F → ∀ cb, cb < C.w0.heap.size → Owned C.lo (cut (C.ss k).next m) (C.ss k) cb → Owned C.lo C.m0 (C.ss 0) cb
  dom : ∀ id i, m id = some i → id < (C.ss F).next
  ext : Ext C.lo C.m0 (C.ss 0) C.w0 m (C.ss F) w
  slots : ∀ t, t < 512 → (∃ d o, C.ops[d]? = some o ∧ S d ∧ o.dst = some t ∧ VR (cut (C.ss (d + 1)).next m) (C.vs d) (a.tmps.getD t undef)) ∨
    ((∀ d o, C.ops[d]? = some o → S d → o.dst ≠ some t) ∧ VR (cut (C.ss 0).next m) ((C.es 0).get t) (a.tmps.getD t undef))

variable {S : Nat → Prop} {a : Act} {w : World} {m : Mp} {s F : Nat}

/-- May the one at i come next? -/
structure Ready (C : Ctx) (S : Nat → Prop) (i : Nat) (o : Oper) : Prop where
  at_ : C.ops[i]? = some o
  new : ¬ S i
  after : ∀ e ∈ o.after, Region.binds .any e = true → S e.on

theorem Inv.before (h : C.Ok) (I : Inv C S a w m s F) {i j : Nat} {o : Oper} (ho : C.ops[j]? = some o) (hr : ∀ e ∈ o.after, Region.binds .any e = true → S e.on) (hord : ord C.b i j = true) : S i ∧ i < j :=
  ord_listed I.closed h.spec.back j i o ho hr hord

/-- What is looked at reads as in the run in text order. -/
theorem Inv.looks (h : C.Ok) (I : Inv C S a w m s F) {i : Nat} {o : Oper} (r : Ready C S i o) {t : Nat} (ht : t ∈ looks (cOper C.P C.nt C.ops o) o) :
    VR (cut (C.ss i).next m) ((C.es i).get t) (a.tmps.getD t undef) := by
  have ht5 := h.spec.small i o r.at_ t ht
  have hin := op_lt r.at_
  rcases I.slots t ht5 with ⟨d, p, hp, hS, hd, hv⟩ | ⟨hno, hv⟩
  · have hdi : d ≠ i := fun e => by subst e; exact r.new hS
    have hpair := (h.spec.pair d i p o t hdi hp r.at_ (by rw [h.dst_eq hp]; exact hd)).2 ht
    by_cases hlt : d < i
    · rw [h.es_set hp ht5 hd i hlt (by omega)]
      exact VR.mono (Le.cut_cut (h.next_le (d + 1) i (by omega) (by omega)) m) _ _ hv
    · rw [if_neg hlt] at hpair
      exact absurd (I.before h hp (I.closed d p hS hp) hpair).1 r.new
  · have : (C.es i).get t = (C.es 0).get t := by
      refine h.es_old ht5 i (by omega) (fun d p hd hp hdst => ?_)
      have hpair := (h.spec.pair d i p o t (by omega) hp r.at_ (by rw [h.dst_eq hp]; exact hdst)).2 ht
      rw [if_pos hd] at hpair
      exact hno d p hp (I.before h r.at_ r.after hpair).1 hdst
    rw [this]
    exact VR.mono (Le.cut_cut (h.next_le 0 i (by omega) (by omega)) m) _ _ hv

/-- The operation's run, seen from what it looks at alone. -/
theorem Inv.runs (h : C.Ok) (I : Inv C S a w m s F) {i : Nat} {o : Oper} (r : Ready C S i o) {ao : AOp} (hc : cOp C.P o = some ao) {lo' : Nat} {σ σ' : St} {v : V} {ev : Ev} (hev : CallOk C.P ev)
    (hR : Rel lo' (cut (C.ss i).next m) σ w) (hr : evOp ao ev lo' (C.es i) σ = .v v σ') : RunsTo C.P ((execOp a.eval o).run C.P w) lo' (cut (C.ss i).next m) σ w v σ' := by
  obtain ⟨g, hg, hform⟩ := (h.step i o r.at_).form
  have hsm := h.spec.small i o r.at_
  have hao : (cOper C.P C.nt C.ops o).op = ao := by rw [hform, hc]; rfl
  have hE : ER (cut (C.ss i).next m) (pick (Vm.looks (cOper C.P C.nt C.ops o) o) (C.es i)) (Act.pick (Vm.looks (cOper C.P C.nt C.ops o) o) a) := by
    intro t ht
    rw [pick_get _ _ hsm t ht, Act.pick_get]
    by_cases hm : t ∈ Vm.looks (cOper C.P C.nt C.ops o) o
    · rw [if_pos hm, if_pos hm]; exact I.looks h r hm
    · rw [if_neg hm, if_neg hm]; exact VR_undef _
  have hag : evOp ao ev lo' (C.es i) σ = evOp ao ev lo' (pick (Vm.looks (cOper C.P C.nt C.ops o) o) (C.es i)) σ := by
    refine evOp_agree fun n hn => ?_
    have hm : n ∈ Vm.looks (cOper C.P C.nt C.ops o) o := by
      unfold Vm.looks
      rw [hao]
      exact List.mem_append_left _ hn
    rw [pick_get _ _ hsm n (hsm n hm), if_pos hm]
  have hex : execOp a.eval o = execOp (Act.pick (Vm.looks (cOper C.P C.nt C.ops o) o) a).eval o := by
    refine execOp_congr o (h.spec.sel i o r.at_) fun x hx => ?_
    cases x with
    | tmp t =>
      have hm : t ∈ Vm.looks (cOper C.P C.nt C.ops o) o := by
        unfold Vm.looks opSlots
        refine List.mem_append_right _ (List.mem_append_left _ ?_)
        rw [List.mem_filterMap]
        exact ⟨.tmp t, Array.mem_toList_iff.2 hx, rfl⟩
      show a.tmps.getD t undef = (Act.pick _ a).tmps.getD t undef
      rw [Act.pick_get, if_pos hm]
    | const v => rfl
    | global g => rfl
    | func f => rfl
  rw [hag] at hr
  rw [hex]
  exact op_sim hev hc hE hR hr

theorem Inv.wanted (h : C.Ok) (I : Inv C S a w m s F) {i : Nat} {o : Oper} (r : Ready C S i o) : wanted (cOper C.P C.nt C.ops o).guard (C.es i) = Region.wanted o (yielded C.ops a.tmps) := by
  obtain ⟨g, hg, hform⟩ := (h.step i o r.at_).form
  rw [hform]
  refine wanted_eq' hg fun d b hd => ⟨_, I.looks h r (t := d) ?_⟩
  unfold Vm.looks
  rw [hform]
  simp [hd]

/-- One that needs memory stands before the first that may write, or is it. -/
theorem Inv.place (h : C.Ok) (I : Inv C S a w m s F) {i : Nat} {o : Oper} (r : Ready C S i o) (hn : C.np i) : s ≤ i ∧ i ≤ F := by
  have hin := op_lt r.at_
  refine ⟨?_, ?_⟩
  · rcases Nat.lt_or_ge i s with h1 | h1
    · exact absurd (I.done i h1 hn) r.new
    · exact h1
  · rcases Nat.lt_or_ge F i with h1 | h1
    · have hF := I.top (by omega)
      rcases h.spec.heavy F i hF.1 (by omega) hin hn with h2 | h2
      · exact absurd (I.before h r.at_ r.after h2).1 hF.2
      · obtain ⟨p, hp⟩ := op_at (C := C) (i := F) (by omega)
        have := ord_listed (S := fun _ => True) (ops := C.ops) (fun _ _ _ _ _ _ _ => trivial) h.spec.back F i p hp (fun _ _ _ => trivial) h2
        omega
    · exact h1

end

end Go.Vm

/- Drawing regions: each step keeps what holds. -/
namespace Go.Vm
variable [Gl]

section
variable {C : Ctx} {S : Nat → Prop} {a : Act} {w : World} {m : Mp} {s F : Nat}

def plus (S : Nat → Prop) (i : Nat) : Nat → Prop := fun j => S j ∨ j = i

theorem closed_plus (I : Inv C S a w m s F) {i : Nat} {o : Oper} (r : Ready C S i o) : ∀ j p, plus S i j → C.ops[j]? = some p → ∀ e ∈ p.after, Region.binds .any e = true → plus S i e.on := by
  intro j p hj hp e he hb
  rcases hj with hj | rfl
  · exact .inl (I.closed j p hj hp e he hb)
  · have := r.at_
    rw [hp] at this; cases this
    exact .inl (r.after e he hb)

omit [Gl] in
theorem put_getD (a : Act) (d : Option Nat) (cv : Value) (hd : ∀ x, d = some x → x < a.tmps.size) (t : Nat) : (a.put d cv).tmps.getD t undef = if d = some t then cv else a.tmps.getD t undef := by
  cases d with
  | none => rfl
  | some x =>
    have hx := hd x rfl
    show (a.tmps.setIfInBounds x cv).getD t undef = _
    simp only [Array.getD_eq_getD_getElem?, Array.getElem?_setIfInBounds]
    by_cases e : x = t
    · subst e; simp [hx]
    · simp [e]

theorem slots_plus (h : C.Ok) (I : Inv C S a w m s F) {i : Nat} {o : Oper} (r : Ready C S i o) {m' : Mp} (hle : Le m m') {cv : Value} (hv : VR (cut (C.ss (i + 1)).next m') (C.vs i) cv) :
    ∀ t, t < 512 → (∃ d p, C.ops[d]? = some p ∧ plus S i d ∧ p.dst = some t ∧ VR (cut (C.ss (d + 1)).next m') (C.vs d) ((a.put o.dst cv).tmps.getD t undef)) ∨
      ((∀ d p, C.ops[d]? = some p → plus S i d → p.dst ≠ some t) ∧ VR (cut (C.ss 0).next m') ((C.es 0).get t) ((a.put o.dst cv).tmps.getD t undef)) := by
  intro t ht
  rw [put_getD a o.dst cv (fun x hx => by rw [I.size]; exact h.dst_lt r.at_ hx)]
  by_cases hd : o.dst = some t
  · left
    rw [if_pos hd]
    exact ⟨i, o, r.at_, .inr rfl, hd, hv⟩
  · rw [if_neg hd]
    rcases I.slots t ht with ⟨d, p, hp, hS, hdt, hvv⟩ | ⟨hno, hvv⟩
    · exact .inl ⟨d, p, hp, .inl hS, hdt, VR.mono (Le.cut_mono hle) _ _ hvv⟩
    · refine .inr ⟨fun d p hp hS => ?_, VR.mono (Le.cut_mono hle) _ _ hvv⟩
      rcases hS with hS | rfl
      · exact hno d p hp hS
      · have := r.at_
        rw [hp] at this; cases this
        exact hd

omit [Gl] in
theorem Ext.grown {lo : Nat} {m m' : Mp} {σ σ' : St} {w w1 w2 : World} (h : Ext lo m σ w m' σ' w1) (hold : ∀ cb, cb < w1.heap.size → w2.heap[cb]? = w1.heap[cb]?) (hs : w1.heap.size ≤ w2.heap.size)
    (henv : w2.tape = w1.tape ∧ w2.os = w1.os ∧ w2.output = w1.output) : Ext lo m σ w m' σ' w2 :=
  ⟨h.le, h.newd, h.next, h.abs, Nat.le_trans h.size hs, fun cb hcb hno => (hold cb (Nat.lt_of_lt_of_le hcb h.size)).trans (h.frame cb hcb hno), h.own, h.fresh, fun cb c e hc =>
      let ⟨c1, q1, q2⟩ := h.rows cb c e hc
      ⟨c1, by rw [hold cb (Array.getElem?_eq_some_iff.1 q1).1]; exact q1, q2⟩,
    henv.1.trans h.env.1, henv.2.1.trans h.env.2.1, henv.2.2.trans h.env.2.2⟩

/-- The store goes on, the memory stays. -/
theorem Ext.later {lo : Nat} {m0 m : Mp} {σ0 σ σ2 : St} {w0 w : World} (hX : Ext lo m0 σ0 w0 m σ w) (hR : Rel lo m σ w) (hk : ∀ id, id < σ.next → Sim (σ.mem.get id) (σ2.mem.get id)) (hle : σ.next ≤ σ2.next)
    (hA : ∀ id, id < σ0.next → (id < lo ∨ m0 id = none) → σ2.mem.get id = σ.mem.get id) : Ext lo m0 σ0 w0 m σ2 w :=
  ⟨hX.le, hX.newd, Nat.le_trans hX.next hle, fun id hid hor => (hA id hid hor).trans (hX.abs id hid hor), hX.size, hX.frame, fun cb hcb ⟨id, i, hl, hi, hb, hor⟩ => by
    refine hX.own cb hcb ⟨id, i, hl, hi, hb, ?_⟩
    have hs := hk id (hR.dom id i hi).1
    rcases hor with ⟨cs, anc, hg⟩ | ⟨es, hg⟩
    · exact .inl ⟨cs, anc, hs.rw_true hg⟩
    · exact .inr ⟨es, hs.map hg⟩, hX.fresh, hX.rows, hX.env⟩

/-- What needs no memory has no numbers of its own. -/
theorem pure_empty (h : C.Ok) {i : Nat} {o : Oper} (ho : C.ops[i]? = some o) (hnp : ¬ C.np i) : C.ss (i + 1) = C.ss i := by
  have hst := h.step i o ho
  rcases hst.does with ⟨_, ⟨ao, hco⟩, _, _, hev⟩ | ⟨_, _, hss⟩
  · have hc0 : cls (cOper C.P C.nt C.ops o).op = 0 := by
      have := h.spec.cls i o ho
      have hn0 : C.cs.getD i 0 = 0 := Classical.not_not.1 hnp
      omega
    exact (pure_ev hc0 hev).1
  · exact hss

/-- What needs no memory, or is left out. -/
theorem Inv.same (h : C.Ok) (I : Inv C S a w m s F) {i : Nat} {o : Oper} (r : Ready C S i o) (hF : i ≠ F) (hnp : C.np i → i < F) {cv : Value} {w' : World} (hv : VR (cut (C.ss (i + 1)).next m) (C.vs i) cv)
    (hold : ∀ cb, cb < w.heap.size → w'.heap[cb]? = w.heap[cb]?) (hsz : w.heap.size ≤ w'.heap.size) (henv : w'.tape = w.tape ∧ w'.os = w.os ∧ w'.output = w.output) (hempty : (C.ss (i + 1)).next = (C.ss i).next) :
    Inv C (plus S i) (a.put o.dst cv) w' m s F where
  size := by rw [Act.put_size]; exact I.size
  defers := by rw [Act.put_defers']; exact I.defers
  closed := closed_plus I r
  sF := I.sF
  Fn := I.Fn
  seg := I.seg
  top := fun hlt => ⟨(I.top hlt).1, fun hs => by
    rcases hs with hs | hs
    · exact (I.top hlt).2 hs
    · exact hF hs.symm⟩
  done := fun j hj hn => .inl (I.done j hj hn)
  notyet := fun j hj hjn hn hs => by
    rcases hs with hs | rfl
    · exact I.notyet j hj hjn hn hs
    · have := hnp hn; omega
  rel := fun k hk1 hk2 => (I.rel k hk1 hk2).grown hold hsz
  free := fun j h1 h2 h3 => I.free j h1 h2 (fun hs => h3 (.inl hs))
  sep := fun j h1 h2 h3 h4 h5 id' j' h6 h7 => by
    rcases h3 with h3 | rfl
    · exact I.sep j h1 h2 h3 h4 h5 id' j' h6 h7
    · omega
  was := I.was
  dom := I.dom
  ext := I.ext.grown hold hsz henv
  slots := slots_plus h I r (Le.refl m) hv

/-- All that is known lies in the memory. -/
theorem Inv.blk (I : Inv C S a w m s F) : ∀ id j, m id = some j → j.blk < w.heap.size := fun id j hj => by
  have hR := I.rel F I.sF (Nat.le_refl _)
  exact (hR.dom id j (by rw [cut_lt (I.dom id j hj)]; exact hj)).2

/-- What reads, or makes new. -/
theorem Inv.light (h : C.Ok) (I : Inv C S a w m s F) {i : Nat} {o : Oper} (r : Ready C S i o) (hs : s ≤ i) (hF : i < F) {cv : Value} {m1 : Mp} {w1 : World} (hv : VR m1 (C.vs i) cv)
    (hl : Light m (cut (C.ss i).next m) (C.ss i) w m1 (C.ss (i + 1)) w1) : Inv C (plus S i) (a.put o.dst cv) w1 (merge m m1) s F := by
  have hin := op_lt r.at_
  have hFn := I.Fn
  have hdom1 : ∀ id j, m1 id = some j → id < (C.ss (i + 1)).next := fun id j hj => (hl.rel.dom id j hj).1
  have hnone1 : ∀ id, (C.ss (i + 1)).next ≤ id → m1 id = none := fun id hid => by
    cases hm : m1 id with
    | none => rfl
    | some j => have := hdom1 id j hm; omega
  have hle1 : Le m1 (cut (C.ss (i + 1)).next (merge m m1)) := fun id j hj => by
    rw [cut_lt (hdom1 id j hj)]; exact hl.le1 id j hj
  refine ⟨by rw [Act.put_size]; exact I.size, by rw [Act.put_defers']; exact I.defers, closed_plus I r, I.sF, I.Fn, I.seg, ?_, fun j hj hn => .inl (I.done j hj hn), ?_, ?_, ?_, ?_, ?_, ?_, ?_, slots_plus h I r (Le.merge m m1) (VR.mono hle1 _ _ hv)⟩
  · intro hlt
    refine ⟨(I.top hlt).1, fun hs => ?_⟩
    rcases hs with hs | hs
    · exact (I.top hlt).2 hs
    · omega
  · intro j hj hjn hn hs
    rcases hs with hs | rfl
    · exact I.notyet j hj hjn hn hs
    · omega
  · intro k hk1 hk2
    by_cases hki : k ≤ i
    · have hnx := h.next_le k i hki (by omega)
      have : cut (C.ss k).next (merge m m1) = cut (C.ss k).next m := by
        funext id
        by_cases hid : id < (C.ss k).next
        · rw [cut_lt hid, cut_lt hid]
          cases hm : m id with
          | some j => exact merge_left hm
          | none => rw [merge_right hm, hl.lo1 (by omega), hm]
        · rw [cut_ge (by omega), cut_ge (by omega)]
      rw [this]
      exact (I.rel k hk1 hk2).grown hl.old hl.ext.size
    · have hnx := h.next_le (i + 1) k (by omega) (by omega)
      have hnx0 := h.next_le i k (by omega) (by omega)
      have : cut (C.ss k).next (merge m m1) = merge (cut (C.ss k).next m) m1 := by
        funext id
        by_cases hid : id < (C.ss k).next
        · rw [cut_lt hid]
          cases hm : m id with
          | some j => rw [merge_left hm, merge_left (by rw [cut_lt hid]; exact hm)]
          | none => rw [merge_right hm, merge_right (by rw [cut_lt hid]; exact hm)]
        · rw [cut_ge (by omega), merge_right (cut_ge (by omega)), hnone1 id (by omega)]
      rw [this]
      refine (I.rel k hk1 hk2).join (mi := cut (C.ss i).next m) (σi := C.ss i) (σ1 := C.ss (i + 1)) ⟨hl.ext, hl.rel, ?_, fun id hid => cut_ge hid, ?_⟩ ?_ hnx
      · intro id hid
        rw [cut_lt hid, cut_lt (by omega)]
      · intro id h1 h2
        rw [cut_lt (by omega)]
        exact hl.free id h1 h2
      · exact h.keep (i + 1) k (by omega) (by omega) (fun q h1 h2 => I.seg q (by omega) (by omega))
  · intro j h1 h2 h3 id h4 h5
    have hji : j ≠ i := fun e => h3 (.inr e)
    have hm := I.free j h1 h2 (fun hs => h3 (.inl hs)) id h4 h5
    rw [merge_right hm]
    rcases Nat.lt_or_ge j i with h6 | h6
    · have := h.next_le (j + 1) i (by omega) (by omega)
      rw [hl.lo1 (by omega), hm]
    · have := h.next_le (i + 1) j (by omega) (by omega)
      exact hnone1 id (by omega)
  · intro q h1 h2 h3 h4 h5 id' j' h6 h7 h8 id j h9 h10
    rcases merge_inv h8 with k1 | ⟨k1, k2⟩
    · have hblk := I.blk id' j' k1
      have hq : S q := by
        rcases h3 with h3 | rfl
        · exact h3
        · have := hl.free id' h6 h7
          rw [k1] at this; cases this
      rcases merge_inv h10 with k3 | ⟨k3, k4⟩
      · exact I.sep q h1 h2 hq h4 h5 id' j' h6 h7 k1 id j h9 k3
      · have := (hl.new_ge k3 k4).2.2
        omega
    · have hn := hl.new_ge k1 k2
      have hqi : q = i := by
        rcases Nat.lt_trichotomy q i with g | g | g
        · have := h.next_le (q + 1) i (by omega) (by omega)
          omega
        · exact g
        · have := h.next_le (i + 1) q (by omega) (by omega)
          omega
      subst hqi
      rcases merge_inv h10 with k3 | ⟨k3, k4⟩
      · have := I.blk id j k3
        omega
      · have := (hl.new_ge k3 k4).1
        omega
  · intro k h1 h2 cb h3 ⟨id, j, g1, g2, g3, g4⟩
    obtain ⟨p1, p2⟩ := cut_some g2
    rcases merge_inv p2 with q1 | ⟨q1, q2⟩
    · exact I.was k h1 h2 cb h3 ⟨id, j, g1, by rw [cut_lt p1]; exact q1, g3, g4⟩
    · have := (hl.new_ge q1 q2).2.2
      have := I.ext.size
      omega
  · intro id j hj
    rcases merge_inv hj with h1 | ⟨_, h1⟩
    · exact I.dom id j h1
    · have := h.next_le (i + 1) F (by omega) (by omega)
      have := hdom1 id j h1
      omega
  · have hx := I.ext
    refine ⟨fun id j hj => Le.merge _ _ _ _ (hx.le id j hj), ?_, hx.next, hx.abs, Nat.le_trans hx.size hl.ext.size, ?_, ?_, ?_, fun cb c e hc => let ⟨c1, q1, q2⟩ := hx.rows cb c e hc; let ⟨c2, q3, q4⟩ := hl.ext.rows cb c1 e q1; ⟨c2, q3, q4.trans q2⟩, hl.ext.env.1.trans hx.env.1, hl.ext.env.2.1.trans hx.env.2.1, hl.ext.env.2.2.trans hx.env.2.2⟩
    · intro id hid hm0
      have hm := hx.newd id hid hm0
      have := h.next_le 0 i (by omega) (by omega)
      rw [merge_right hm, hl.lo1 (by omega), hm]
    · intro cb hcb hno
      exact (hl.old cb (Nat.lt_of_lt_of_le hcb hx.size)).trans (hx.frame cb hcb hno)
    · intro cb hcb ⟨id, j, h1, h2, h3, h4⟩
      rcases merge_inv h2 with g1 | ⟨g1, g2⟩
      · exact hx.own cb hcb ⟨id, j, h1, g1, h3, h4⟩
      · have := (hl.new_ge g1 g2).2.2
        have := hx.size
        omega
    · intro id j h1 h2
      rcases merge_inv h1 with g1 | ⟨g1, g2⟩
      · exact hx.fresh id j g1 h2
      · have := (hl.new_ge g1 g2).2.2
        have := hx.size
        exact .inl (by omega)

omit [Gl] in
theorem exists_next (fl : Nat → Bool) (n : Nat) : ∀ (d k : Nat), n - k = d → k ≤ n → ∃ F', k ≤ F' ∧ F' ≤ n ∧ (∀ q, k ≤ q → q < F' → fl q = false) ∧ (F' < n → fl F' = true)
  | 0, k, hd, hk => ⟨k, Nat.le_refl _, hk, fun q h1 h2 => by omega, fun h1 => by omega⟩
  | d + 1, k, hd, hk => by
    cases hf : fl k with
    | true => exact ⟨k, Nat.le_refl _, hk, fun q h1 h2 => by omega, fun _ => hf⟩
    | false =>
      obtain ⟨F', h1, h2, h3, h4⟩ := exists_next fl n d (k + 1) (by omega) (by omega)
      refine ⟨F', by omega, h2, fun q h5 h6 => ?_, h4⟩
      by_cases e : q = k
      · subst e; exact hf
      · exact h3 q (by omega) h6

theorem fl_np {i : Nat} (h : C.fl i = true) : C.np i := by
  have h' : alone C.b C.cs i = true := h
  unfold alone at h'
  simp only [Bool.and_eq_true, bne_iff_ne, ne_eq] at h'
  exact h'.1

omit [Gl] in
theorem cut_all {n : Nat} (hd : ∀ id i, m id = some i → id < n) : cut n m = m := by
  funext id
  by_cases h : id < n
  · exact cut_lt h
  · rw [cut_ge (by omega)]
    cases hm : m id with
    | none => rfl
    | some i => exact absurd (hd id i hm) h

/-- What may write. -/
theorem Inv.heavy (h : C.Ok) (I : Inv C S a w m s F) {o : Oper} (r : Ready C S F o) {cv : Value} {m' : Mp} {w' : World} (hv : VR m' (C.vs F) cv) (hR : Rel C.lo m' (C.ss (F + 1)) w')
    (hX : Ext C.lo m (C.ss F) w m' (C.ss (F + 1)) w') : ∃ F', Inv C (plus S F) (a.put o.dst cv) w' m' (F + 1) F' := by
  have hin := op_lt r.at_
  obtain ⟨F', h1, h2, h3, h4⟩ := exists_next C.fl C.ops.size _ (F + 1) rfl (by omega)
  have hd : ∀ id i, m' id = some i → id < (C.ss (F + 1)).next := fun id i hi => (hR.dom id i hi).1
  have hk : ∀ k, F + 1 ≤ k → k ≤ F' → ∀ id, id < (C.ss (F + 1)).next → Sim ((C.ss (F + 1)).mem.get id) ((C.ss k).mem.get id) :=
    fun k g1 g2 => h.keep (F + 1) k g1 (by omega) (fun q g3 g4 => h3 q g3 (by omega))
  refine ⟨F', by rw [Act.put_size]; exact I.size, by rw [Act.put_defers']; exact I.defers, closed_plus I r, h1, h2, h3, ?_, ?_, ?_, ?_, ?_, ?_, ?_, ?_, ?_, slots_plus h I r hX.le ?_⟩
  · intro hlt
    refine ⟨h4 hlt, fun hs => ?_⟩
    rcases hs with hs | hs
    · exact I.notyet F' (by omega) hlt (fl_np (h4 hlt)) hs
    · omega
  · intro i hi hn
    by_cases e : i = F
    · exact .inr e
    · left
      have hFn : F < C.ops.size := hin
      rcases h.spec.heavy F i (I.top hFn).1 (by omega) (by omega) hn with g | g
      · obtain ⟨p, hp⟩ := op_at (C := C) (i := i) (by omega)
        have := ord_listed (S := fun _ => True) (ops := C.ops) (fun _ _ _ _ _ _ _ => trivial) h.spec.back i F p hp (fun _ _ _ => trivial) g
        omega
      · exact (I.before h r.at_ r.after g).1
  · intro j hj hjn hn hs
    rcases hs with hs | hs
    · exact I.notyet j (by omega) hjn hn hs
    · omega
  · intro k g1 g2
    have hnx := h.next_le (F + 1) k g1 (by omega)
    rw [cut_all (fun id i hi => Nat.lt_of_lt_of_le (hd id i hi) hnx)]
    exact hR.agree (hk k g1 g2) (h.next_top k (by omega)) hnx
  · intro i g1 g2 _ id g4 g5
    have hnx := h.next_le (F + 1) i g1 (by omega)
    cases hm : m' id with
    | none => rfl
    | some j => have := hd id j hm; omega
  · intro q g1 g2 g3 g4 _ id' j' g6 g7 g8
    have hnx := h.next_le (F + 1) q g1 (by omega)
    have := hd id' j' g8
    omega
  · intro k g1 g2 cb g3 ⟨id, j, q1, q2, q3, q4⟩
    have q2' := (cut_some q2).2
    refine (I.ext.trans hX).own cb g3 ⟨id, j, q1, q2', q3, ?_⟩
    have hsm := hk k g1 g2 id (hd id j q2')
    rcases q4 with ⟨cs, anc, hg⟩ | ⟨es, hg⟩
    · exact .inl ⟨cs, anc, hsm.rw_true hg⟩
    · exact .inr ⟨es, hsm.map hg⟩
  · intro id i hi
    have hnx := h.next_le (F + 1) F' h1 (by omega)
    have := hd id i hi
    omega
  · exact (I.ext.trans hX).later hR (hk F' h1 (Nat.le_refl _)) (h.next_le (F + 1) F' h1 (by omega)) (h.keepA (F + 1) F' h1 (by omega) (fun q g3 g4 => h3 q g3 (by omega)))
  · rw [cut_all hd]; exact hv

/-- An append among others. -/
theorem Inv.semi (h : C.Ok) (I : Inv C S a w m s F) {i : Nat} {o : Oper} (r : Ready C S i o) (hs : s ≤ i) (hF : i < F) (hsm : C.sm i = true) {cv : Value} {m1 : Mp} {w1 : World} (hv : VR m1 (C.vs i) cv)
    (hl : Semi C.lo m (cut (C.ss i).next m) (C.ss i) w m1 (C.ss (i + 1)) w1) : Inv C (plus S i) (a.put o.dst cv) w1 (merge m m1) s F := by
  have hin := op_lt r.at_
  have hFn := I.Fn
  have hdom1 : ∀ id j, m1 id = some j → id < (C.ss (i + 1)).next := fun id j hj => (hl.rel.dom id j hj).1
  have hnone1 : ∀ id, (C.ss (i + 1)).next ≤ id → m1 id = none := fun id hid => by
    cases hm : m1 id with
    | none => rfl
    | some j => have := hdom1 id j hm; omega
  have hle1 : Le m1 (cut (C.ss (i + 1)).next (merge m m1)) := fun id j hj => by
    rw [cut_lt (hdom1 id j hj)]; exact hl.le1 id j hj
  -- a number above comes of one that is no append
  have above : ∀ n id j, (C.ss (i + 1)).next ≤ id → id < (C.ss n).next → n ≤ F → i + 1 ≤ n → m id = some j → ∃ q, i + 1 ≤ q ∧ q < F ∧ S q ∧ C.np q ∧ C.sm q = false ∧ (C.ss q).next ≤ id ∧ id < (C.ss (q + 1)).next := by
    intro n
    induction n with
    | zero => intro id j _ _ _ h4; omega
    | succ n ih =>
      intro id j h1 h2 h3 h4 h5
      rcases Nat.lt_or_ge id (C.ss n).next with h6 | h6
      · by_cases h7 : n = i
        · subst h7
          have := h.next_le n (n + 1) (by omega) (by omega)
          omega
        · exact ih id j h1 h6 (by omega) (by omega) h5
      · by_cases h7 : n = i
        · subst h7; omega
        · have hSq : S n := by
            apply Classical.byContradiction
            intro hno
            have := I.free n (by omega) (by omega) hno id h6 h2
            rw [h5] at this; cases this
          obtain ⟨p, hp⟩ := op_at (C := C) (i := n) (by omega)
          have hnp : C.np n := by
            apply Classical.byContradiction
            intro hno
            have := pure_empty h hp hno
            rw [this] at h2
            omega
          refine ⟨n, by omega, by omega, hSq, hnp, ?_, h6, h2⟩
          cases hq : C.sm n with
          | false => rfl
          | true =>
            exfalso
            rcases h.spec.semi i n hsm hq (by omega) hin with g | g
            · have := (I.before h hp (I.closed n p hSq hp) g).1
              exact r.new this
            · have := ord_listed (S := fun _ => True) (ops := C.ops) (fun _ _ _ _ _ _ _ => trivial) h.spec.back i n o r.at_ (fun _ _ _ => trivial) g
              omega
  have hsep : ∀ id j, m id = some j → (C.ss (i + 1)).next ≤ id → ¬ Owned C.lo (cut (C.ss i).next m) (C.ss i) j.blk := by
    intro id j hj hge ⟨id0, i0, h1, h2, h3, _⟩
    obtain ⟨g1, g2⟩ := cut_some h2
    obtain ⟨q, q1, q2, q3, q4, q5, q6, q7⟩ := above F id j hge (I.dom id j hj) (Nat.le_refl _) (by omega) hj
    have hnx := h.next_le i q (by omega) (by omega)
    exact I.sep q (by omega) q2 q3 q4 q5 id j q6 q7 hj id0 i0 (by omega) g2 h3
  refine ⟨by rw [Act.put_size]; exact I.size, by rw [Act.put_defers']; exact I.defers, closed_plus I r, I.sF, I.Fn, I.seg, ?_, fun j hj hn => .inl (I.done j hj hn), ?_, ?_, ?_, ?_, ?_, ?_, ?_, slots_plus h I r (Le.merge m m1) (VR.mono hle1 _ _ hv)⟩
  · intro hlt
    refine ⟨(I.top hlt).1, fun hs => ?_⟩
    rcases hs with hs | hs
    · exact (I.top hlt).2 hs
    · omega
  · intro j hj hjn hn hs
    rcases hs with hs | rfl
    · exact I.notyet j hj hjn hn hs
    · omega
  · intro k hk1 hk2
    by_cases hki : k ≤ i
    · have hnx := h.next_le k i hki (by omega)
      have hnx1 := h.next_le i (i + 1) (by omega) (by omega)
      have : cut (C.ss k).next (merge m m1) = cut (C.ss k).next m := by
        funext id
        by_cases hid : id < (C.ss k).next
        · rw [cut_lt hid, cut_lt hid]
          cases hm : m id with
          | some j => exact merge_left hm
          | none => rw [merge_right hm, hl.lo1 (by omega), hm]
        · rw [cut_ge (by omega), cut_ge (by omega)]
      rw [this]
      refine (I.rel k hk1 hk2).before (fun id j hj => ?_) hl.rel hl.ext (fun id j hj => ?_)
      · obtain ⟨g1, g2⟩ := cut_some hj
        rw [hl.lo1 (by omega)]; exact g2
      · obtain ⟨g1, g2⟩ := cut_some hj
        exact h.keep k (i + 1) (by omega) (by omega) (fun q h1 h2 => I.seg q (by omega) (by omega)) id g1
    · have hnx := h.next_le (i + 1) k (by omega) (by omega)
      have hnx0 := h.next_le i k (by omega) (by omega)
      have : cut (C.ss k).next (merge m m1) = merge (cut (C.ss k).next m) m1 := by
        funext id
        by_cases hid : id < (C.ss k).next
        · rw [cut_lt hid]
          cases hm : m id with
          | some j => rw [merge_left hm, merge_left (by rw [cut_lt hid]; exact hm)]
          | none => rw [merge_right hm, merge_right (by rw [cut_lt hid]; exact hm)]
        · rw [cut_ge (by omega), merge_right (cut_ge (by omega)), hnone1 id (by omega)]
      rw [this]
      refine (I.rel k hk1 hk2).after (mi := cut (C.ss i).next m) (σi := C.ss i) (σ1 := C.ss (i + 1)) ⟨hl.ext, hl.rel, ?_, fun id hid => cut_ge hid, ?_⟩ ?_ hnx ?_
      · intro id hid
        rw [cut_lt hid, cut_lt (by omega)]
      · intro id h1 h2
        rw [cut_lt (by omega)]
        exact hl.free id h1 h2
      · exact h.keep (i + 1) k (by omega) (by omega) (fun q h1 h2 => I.seg q (by omega) (by omega))
      · intro id j hj hge
        exact hsep id j (cut_some hj).2 hge
  · intro j h1 h2 h3 id h4 h5
    have hji : j ≠ i := fun e => h3 (.inr e)
    have hm := I.free j h1 h2 (fun hs => h3 (.inl hs)) id h4 h5
    rw [merge_right hm]
    rcases Nat.lt_or_ge j i with h6 | h6
    · have := h.next_le (j + 1) i (by omega) (by omega)
      rw [hl.lo1 (by omega), hm]
    · have := h.next_le (i + 1) j (by omega) (by omega)
      exact hnone1 id (by omega)
  · intro q h1 h2 h3 h4 h5 id' j' h6 h7 h8 id j h9 h10
    have hqi : q ≠ i := fun e => by subst e; rw [hsm] at h5; cases h5
    have hq : S q := by
      rcases h3 with h3 | h3
      · exact h3
      · exact absurd h3 hqi
    have k1 : m id' = some j' := by
      rcases merge_inv h8 with k1 | ⟨k1, k2⟩
      · exact k1
      · have hn := hl.new_ge k1 k2
        rcases Nat.lt_trichotomy q i with g | g | g
        · have := h.next_le (q + 1) i (by omega) (by omega)
          omega
        · exact absurd g hqi
        · have := h.next_le (i + 1) q (by omega) (by omega)
          omega
    rcases merge_inv h10 with k3 | ⟨k3, k4⟩
    · exact I.sep q h1 h2 hq h4 h5 id' j' h6 h7 k1 id j h9 k3
    · have hn := hl.new_ge k3 k4
      have hblk := I.blk id' j' k1
      rcases hn.2.2 with g | ⟨id0, i0, g1, g2, g3, _⟩
      · omega
      · obtain ⟨p1, p2⟩ := cut_some g2
        rw [← g3]
        exact I.sep q h1 h2 hq h4 h5 id' j' h6 h7 k1 id0 i0 (by omega) p2
  · intro k h1 h2 cb h3 ⟨id, j, g1, g2, g3, g4⟩
    obtain ⟨p1, p2⟩ := cut_some g2
    rcases merge_inv p2 with q1 | ⟨q1, q2⟩
    · exact I.was k h1 h2 cb h3 ⟨id, j, g1, by rw [cut_lt p1]; exact q1, g3, g4⟩
    · have := I.ext.size
      rcases (hl.new_ge q1 q2).2.2 with k1 | k1
      · omega
      · rw [g3] at k1
        exact I.was i hs (by omega) cb h3 k1
  · intro id j hj
    rcases merge_inv hj with h1 | ⟨_, h1⟩
    · exact I.dom id j h1
    · have := h.next_le (i + 1) F (by omega) (by omega)
      have := hdom1 id j h1
      omega
  · have hx := I.ext
    refine ⟨fun id j hj => Le.merge _ _ _ _ (hx.le id j hj), ?_, hx.next, hx.abs, Nat.le_trans hx.size hl.ext.size, ?_, ?_, ?_, fun cb c e hc => let ⟨c1, q1, q2⟩ := hx.rows cb c e hc; let ⟨c2, q3, q4⟩ := hl.ext.rows cb c1 e q1; ⟨c2, q3, q4.trans q2⟩, hl.ext.env.1.trans hx.env.1, hl.ext.env.2.1.trans hx.env.2.1, hl.ext.env.2.2.trans hx.env.2.2⟩
    · intro id hid hm0
      have hm := hx.newd id hid hm0
      have := h.next_le 0 i (by omega) (by omega)
      rw [merge_right hm, hl.lo1 (by omega), hm]
    · intro cb hcb hno
      exact (hl.ext.frame cb (Nat.lt_of_lt_of_le hcb hx.size) (fun ho => hno (I.was i hs (by omega) cb hcb ho))).trans (hx.frame cb hcb hno)
    · intro cb hcb ⟨id, j, h1, h2, h3, h4⟩
      rcases merge_inv h2 with g1 | ⟨g1, g2⟩
      · exact hx.own cb hcb ⟨id, j, h1, g1, h3, h4⟩
      · have := hx.size
        rcases (hl.new_ge g1 g2).2.2 with k1 | k1
        · omega
        · rw [h3] at k1
          exact I.was i hs (by omega) cb hcb k1
    · intro id j h1 h2
      rcases merge_inv h1 with g1 | ⟨g1, g2⟩
      · exact hx.fresh id j g1 h2
      · have := hx.size
        rcases (hl.new_ge g1 g2).2.2 with k1 | k1
        · exact .inl (by omega)
        · rcases Nat.lt_or_ge j.blk C.w0.heap.size with k2 | k2
          · exact .inr (I.was i hs (by omega) _ k2 k1)
          · exact .inl k2

theorem Inv.step (h : C.Ok) (I : Inv C S a w m s F) {i : Nat} {o : Oper} (r : Ready C S i o) {K : Act → World → Prop} {Q : Exit → Act → World → Prop}
    (hK : ∀ a' w' m' s' F', Inv C (plus S i) a' w' m' s' F' → K a' w') : wpOp C.P C.ops Q i K a w := by
  have hin := op_lt r.at_
  have hst := h.step i o r.at_
  have hw := I.wanted h r
  have hdF : cut (C.ss F).next m = m := cut_all I.dom
  have hRF : Rel C.lo m (C.ss F) w := by
    have := I.rel F I.sF (Nat.le_refl _)
    rwa [hdF] at this
  unfold wpOp
  rw [r.at_]
  simp only
  rcases hst.does with ⟨hwt, ⟨ao, hco⟩, ev, hok, hev⟩ | ⟨hwt, hvu, hss⟩
  · rw [if_pos (by rw [← hw]; exact hwt)]
    left
    obtain ⟨g, hg, hform⟩ := hst.form
    have hao : (cOper C.P C.nt C.ops o).op = ao := by rw [hform, hco]; rfl
    rw [hao] at hev
    by_cases hiF : i = F
    · subst hiF
      rw [(I.top hin).1, Bool.true_or] at hev
      have hrun := I.runs h r hco hok (by rw [hdF]; exact hRF) (hev : evOp ao ev C.lo (C.es i) (C.ss i) = .v (C.vs i) (C.ss (i + 1)))
      rw [hdF] at hrun
      refine hrun.wp fun cv m' w' g1 g2 g3 => ?_
      obtain ⟨F', I'⟩ := I.heavy h r g1 g2 g3
      exact hK _ _ _ _ _ I'
    · by_cases hnp : C.np i
      · obtain ⟨p1, p2⟩ := I.place h r hnp
        have hlt : i < F := by omega
        rw [I.seg i p1 hlt, Bool.false_or] at hev
        cases hsm : C.sm i with
        | false =>
          rw [hsm] at hev
          have hrun := I.runs h r hco hok (I.rel i p1 (by omega)).own_none (hev : evOp ao ev (C.ss i).next (C.es i) (C.ss i) = .v (C.vs i) (C.ss (i + 1)))
          refine hrun.wp fun cv m' w' g1 g2 g3 => ?_
          exact hK _ _ _ _ _ (I.light h r p1 hlt g1 ⟨g3, g2, fun id hid => cut_lt hid, fun id hid => cut_ge hid, fun id h1 h2 => I.free i p1 hlt r.new id h1 h2⟩)
        | true =>
          rw [hsm] at hev
          have hrun := I.runs h r hco hok (I.rel i p1 (by omega)) (hev : evOp ao ev C.lo (C.es i) (C.ss i) = .v (C.vs i) (C.ss (i + 1)))
          refine hrun.wp fun cv m' w' g1 g2 g3 => ?_
          exact hK _ _ _ _ _ (I.semi h r p1 hlt hsm g1 ⟨g3, g2, fun id hid => cut_lt hid, fun id hid => cut_ge hid, fun id h1 h2 => I.free i p1 hlt r.new id h1 h2⟩)
      · have hc0 : cls ao = 0 := by
          have := h.spec.cls i o r.at_
          rw [hao] at this
          have hn0 : C.cs.getD i 0 = 0 := Classical.not_not.1 hnp
          omega
        obtain ⟨hsame, hany⟩ := pure_ev hc0 hev
        have hb : Rel (C.ss i).next (cut (C.ss i).next m) ⟨M.nil, (C.ss i).next⟩ w := Rel.blank (fun g hg => by rw [cut_lt (Nat.lt_of_lt_of_le (h.zero g hg) (h.next_le 0 i (by omega) (by omega)))]; exact hRF.pins g hg) fun id j hj => by
          obtain ⟨q1, q2⟩ := cut_some hj
          exact ⟨q1, (hRF.dom id j q2).2⟩
        have hrun := I.runs h r hco hok hb (hany ev (C.ss i).next ⟨M.nil, (C.ss i).next⟩)
        refine hrun.wp fun cv m' w' g1 g2 g3 => ?_
        have hle : Le m' (cut (C.ss (i + 1)).next m) := fun id j hj => by
          rw [hsame]
          have hid : id < (C.ss i).next := (g2.dom id j hj).1
          cases hm : cut (C.ss i).next m id with
          | none =>
            have := g3.newd id hid hm
            rw [this] at hj; cases hj
          | some q =>
            have := g3.le id q hm
            rw [hj] at this; cases this; rfl
        refine hK _ _ _ _ _ (I.same h r hiF (fun q => absurd q hnp) (VR.mono hle _ _ g1) ?_ g3.size g3.env (by rw [hsame]))
        intro cb hcb
        refine g3.frame cb hcb fun ⟨id, j, q1, q2, _⟩ => ?_
        have := (cut_some q2).1
        have q1' : (C.ss i).next ≤ id := q1
        omega
  · rw [if_neg (by rw [← hw, hwt]; simp)]
    by_cases hiF : i = F
    · subst hiF
      obtain ⟨F', I'⟩ := I.heavy h r (cv := undef) (m' := m) (w' := w) (by rw [hvu]; exact VR_undef m) (by rw [hss]; exact hRF) (by rw [hss]; exact Ext.refl _ _ _ _)
      exact hK _ _ _ _ _ I'
    · refine hK _ _ _ _ _ (I.same h r hiF (fun q => ?_) (by rw [hvu]; exact VR_undef _) (fun _ _ => rfl) (Nat.le_refl _) ⟨rfl, rfl, rfl⟩ (by rw [hss]))
      have := I.place h r q
      omega

end

end Go.Vm

/- Drawing regions are sound; so is the evaluator. -/
namespace Go.Vm
variable [Gl]

section
variable {C : Ctx}

def listedS (listed : Array Bool) : Nat → Prop := fun i => listed.getD i false = true

theorem Inv.congr {S S' : Nat → Prop} (hS : ∀ j, S j ↔ S' j) {a : Act} {w : World} {m : Mp} {s F : Nat} (I : Inv C S a w m s F) : Inv C S' a w m s F := by
  have : S = S' := funext fun j => propext (hS j)
  subst this
  exact I

omit [Gl] in
theorem listed_plus {listed : Array Bool} {i : Nat} (hi : i < listed.size) (j : Nat) : plus (listedS listed) i j ↔ listedS (listed.setIfInBounds i true) j := by
  unfold plus listedS
  by_cases e : j = i
  · subst e; simp [hi]
  · rw [getD_set_ne false (Ne.symm e)]; simp [e]

theorem any_of (h : C.Ok) {Q : Exit → Act → World → Prop} (hQ : ∀ a w m s F, Inv C (fun j => j < C.ops.size) a w m s F → Q .normal a w) : ∀ (fuel : Nat) (listed : Array Bool) (a : Act) (w : World) (m : Mp) (s F : Nat),
    listed.size = C.ops.size → listed.toList.count false ≤ fuel → Inv C (listedS listed) a w m s F → wpAny C.P .any C.ops Q fuel listed a w := by
  have fin : ∀ (listed : Array Bool) (a : Act) (w : World) (m : Mp) (s F : Nat), listed.size = C.ops.size → Inv C (listedS listed) a w m s F → Region.ready .any C.ops listed = [] → Q .normal a w := by
    intro listed a w m s F hl I hr
    have hall : ∀ i, i < C.ops.size → listedS listed i := by
      intro i
      induction i using Nat.strongRecOn with
      | _ i ih =>
        intro hi
        cases hli : listed.getD i true with
        | true =>
          have hlt : i < listed.size := by omega
          show listed.getD i false = true
          rw [← hli]
          simp [Array.getD, hlt]
        | false =>
          obtain ⟨o, ho⟩ := op_at (C := C) hi
          have : i ∈ Region.ready .any C.ops listed := mem_ready.2 ⟨hli, o, ho, fun e he hb => ih e.on (h.spec.back i o ho e he hb) (by have := h.spec.back i o ho e he hb; omega)⟩
          rw [hr] at this
          cases this
    refine hQ a w m s F (I.congr fun j => ⟨fun hj => ?_, hall j⟩)
    rcases Nat.lt_or_ge j C.ops.size with h1 | h1
    · exact h1
    · have : listed.getD j false = false := by simp [Array.getD]; omega
      rw [listedS, this] at hj
      cases hj
  intro fuel
  induction fuel with
  | zero =>
    intro listed a w m s F hl hc I
    have hr : Region.ready .any C.ops listed = [] := by
      apply List.eq_nil_iff_forall_not_mem.2
      intro i hi
      obtain ⟨h1, o, ho, _⟩ := mem_ready.1 hi
      have hlt : i < listed.size := by have := op_lt ho; omega
      have : listed[i] = false := by simpa [Array.getD, hlt] using h1
      have hmem : false ∈ listed.toList := by rw [← this]; simp
      have := List.count_pos_iff.2 hmem
      omega
    exact ⟨hr, fin listed a w m s F hl I hr⟩
  | succ fuel ih =>
    intro listed a w m s F hl hc I
    refine ⟨fin listed a w m s F hl I, fun i hi => ?_⟩
    obtain ⟨h1, o, ho, h2⟩ := mem_ready.1 hi
    have hlt : i < listed.size := by have := op_lt ho; omega
    have hf : listed[i] = false := by simpa [Array.getD, hlt] using h1
    have hnew : ¬ listedS listed i := by
      intro hs
      have : listed.getD i false = false := by simp [Array.getD, hlt, hf]
      rw [listedS, this] at hs
      cases hs
    have r : Ready C (listedS listed) i o := ⟨ho, hnew, h2⟩
    refine I.step h r fun a' w' m' s' F' I' => ?_
    refine ih (listed.setIfInBounds i true) a' w' m' s' F' (by simp [hl]) ?_ (I'.congr (listed_plus hlt))
    have : (listed.setIfInBounds i true).toList = listed.toList.set i true := by simp
    rw [this, List.count_set (by simpa using hlt)]
    have h3 : listed.toList[i]'(by simpa using hlt) = false := by simpa using hf
    have hmem : false ∈ listed.toList := by rw [← h3]; exact List.getElem_mem _
    have := List.count_pos_iff.2 hmem
    have e1 : (true == false) = false := rfl
    simp only [h3, e1, beq_self_eq_true, if_true, Bool.false_eq_true, if_false]
    omega

end

theorem draw_sound {P : Program} (hm : P.follows .mixedOrders = true) : DrawOk P := by
  intro nt lo id ops e σ e2 σ2 m a w hn h hE hR hs hd
  unfold cDraw at h
  dsimp only at h
  split at h
  · rename_i hok
    have hspec := drawOk_spec hok
    have gen : ∀ al sl : Nat → Bool, (ops.toList.zipIdx.map fun x => (al x.2 || sl x.2, (cOper P nt ops x.1).asF (sl x.2))) = (ops.toList.zipIdx.map fun x => (x.1, al x.2, sl x.2)).map fun x => (x.2.1 || x.2.2, (cOper P nt ops x.1).asF x.2.2) :=
      fun al sl => by rw [List.map_map]; rfl
    rw [gen (alone (masks ops.toList []) ((ops.toList.map (cOper P nt ops)).map fun o => cls o.op)) (semi (masks ops.toList []) ((ops.toList.map (cOper P nt ops)).map fun o => cls o.op))] at h
    obtain ⟨es, ss, vs, h1, h2, h3, h4⟩ := run_of hn σ.next m e2 σ2 _ e σ m a w h (fun x hx hsm => by
      rw [List.mem_map] at hx
      obtain ⟨⟨o, i⟩, ho, rfl⟩ := hx
      simp only at hsm ⊢
      unfold semi at hsm
      simp only [Bool.and_eq_true] at hsm
      have ho' : ops[i]? = some o := by
        have := List.mem_zipIdx_iff_getElem?.1 ho
        simpa using this
      refine ⟨by simpa using hsm.1.2, ?_⟩
      have hcl := hspec.cls i o ho'
      have h6 := hsm.1.1
      simp only [beq_iff_eq] at h6
      omega) hE hR hs (Nat.le_refl _) (fun _ _ hx => hx)
    simp only [List.length_map, List.length_zipIdx, Array.length_toList] at h3
    have hR1 : Rel lo m σ { w with drawn := w.drawn + 1 } := hR.heap rfl
    let C : Ctx := ⟨P, nt, ops, lo, es, ss, vs, m, w⟩
    have hC : C.Ok := by
      refine ⟨hn, hspec, ?_, ?_⟩
      · intro i o ho
        have ho' : ops.toList[i]? = some o := by simpa using (ho : ops[i]? = some o)
        have hst := h4 i (o, C.fl i, C.sm i) (by
          rw [List.getElem?_map, List.getElem?_zipIdx, ho']
          simp only [Option.map_some, Nat.zero_add]
          rfl)
        show StepOk P nt ops lo o (C.fl i) (C.sm i) (ss 0).next m (es i) (es (i + 1)) (ss i) (ss (i + 1)) (vs i)
        rw [h2]
        exact hst
      · skip
        intro g hg
        show g < (ss 0).next
        rw [h2]; exact (hR.dom g _ (hR.pins g hg)).1
    obtain ⟨rfl, rfl⟩ := h3
    obtain ⟨F', f1, f2, f3, f4⟩ := exists_next C.fl C.ops.size _ 0 rfl (Nat.zero_le _)
    have hS0 : ∀ j, ¬ listedS (Array.replicate ops.size false) j := by
      intro j hj
      unfold listedS at hj
      simp [Array.getD_eq_getD_getElem?, Array.getElem?_replicate] at hj
      split at hj <;> simp at hj
    have hd0 : ∀ id i, m id = some i → id < (ss 0).next := fun id i hi => by rw [h2]; exact (hR.dom id i hi).1
    have hk : ∀ k, k ≤ F' → ∀ id, id < (ss 0).next → Sim ((ss 0).mem.get id) ((ss k).mem.get id) := fun k g1 => hC.keep 0 k (Nat.zero_le _) (by omega) (fun q _ g4 => f3 q (Nat.zero_le _) (by omega))
    have hR0 : Rel lo m (ss 0) { w with drawn := w.drawn + 1 } := by rw [h2]; exact hR1
    have hX0 : Ext lo m (ss 0) w m (ss 0) { w with drawn := w.drawn + 1 } := Ext.drew lo m (ss 0) w _
    have I0 : Inv C (listedS (Array.replicate ops.size false)) a { w with drawn := w.drawn + 1 } m 0 F' := by
      refine ⟨hs, hd, fun j _ hj => absurd hj (hS0 j), Nat.zero_le _, f2, f3, fun hlt => ⟨f4 hlt, hS0 _⟩, fun i hi => absurd hi (Nat.not_lt_zero i), fun i _ _ _ => hS0 i, ?_, ?_, fun i' _ _ hS' => absurd hS' (hS0 i'), ?_, ?_, ?_, ?_⟩
      · intro k _ g2
        have hnx := hC.next_le 0 k (Nat.zero_le _) (by omega)
        show Rel lo (cut (ss k).next m) (ss k) _
        rw [cut_all (fun id i hi => Nat.lt_of_lt_of_le (hd0 id i hi) hnx)]
        exact hR0.agree (hk k g2) (hC.next_top k (by omega)) hnx
      · intro i _ g2 _ id g4 _
        have hnx := hC.next_le 0 i (Nat.zero_le _) (by omega)
        cases hm' : m id with
        | none => rfl
        | some j =>
          have := hd0 id j hm'
          have g4' : (ss i).next ≤ id := g4
          have hnx' : (ss 0).next ≤ (ss i).next := hnx
          omega
      · intro k _ g2 cb _ ⟨id, j, q1, q2, q3, q4⟩
        have q2' := (cut_some q2).2
        refine ⟨id, j, q1, q2', q3, ?_⟩
        have hsm := hk k g2 id (hd0 id j q2')
        rcases q4 with ⟨cs, anc, hg'⟩ | ⟨es', hg'⟩
        · exact .inl ⟨cs, anc, hsm.rw_true hg'⟩
        · exact .inr ⟨es', hsm.map hg'⟩
      · intro id i hi
        exact Nat.lt_of_lt_of_le (hd0 id i hi) (hC.next_le 0 F' (Nat.zero_le _) f2)
      · exact hX0.later hR0 (hk F' (Nat.le_refl _)) (hC.next_le 0 F' (Nat.zero_le _) f2) (hC.keepA 0 F' (Nat.zero_le _) f2 (fun q _ g4 => f3 q (Nat.zero_le _) g4))
      · intro t ht
        refine .inr ⟨fun d _ _ hj => absurd hj (hS0 d), ?_⟩
        show VR (cut (ss 0).next m) ((es 0).get t) _
        rw [cut_all hd0, h1]
        exact hE t ht
    refine wp_region_any hm (any_of hC ?_ ops.size _ a _ m 0 F' (by simp; rfl) (by simp) I0)
    intro a' w' m' s F I
    have hF : F = ops.size := by
      rcases Nat.lt_or_ge F ops.size with g1 | g1
      · exact absurd g1 (I.top g1).2
      · have := I.Fn
        have : F ≤ ops.size := this
        omega
    subst hF
    have hdm : cut (ss ops.size).next m' = m' := cut_all I.dom
    refine ⟨rfl, I.size, I.defers, m', ?_, ?_, ?_⟩
    · intro t ht
      show VR m' ((es ops.size).get t) _
      rcases I.slots t ht with ⟨d, o, ho, _, hdt, hv⟩ | ⟨hno, hv⟩
      · have : (es ops.size).get t = vs d := hC.es_set ho ht hdt ops.size (op_lt (C := C) ho) (Nat.le_refl _)
        rw [this]
        exact VR.mono (Le.cut _ _) _ _ hv
      · have : (es ops.size).get t = (es 0).get t := hC.es_old ht ops.size (Nat.le_refl _) (fun d o hd ho => hno d o ho hd)
        rw [this]
        exact VR.mono (Le.cut _ _) _ _ hv
    · have := I.rel ops.size I.sF (Nat.le_refl _)
      change Rel lo (cut (ss ops.size).next m') (ss ops.size) w' at this
      rwa [hdm] at this
    · have := I.ext
      change Ext lo m (ss 0) w m' (ss ops.size) w' at this
      rwa [h2] at this
  · rcases h with ⟨_, v, σ1, ⟨ev, _, hr⟩, _⟩ | ⟨hwt, _⟩
    · cases hr
    · cases hwt

/-- THE EVALUATOR IS SOUND: where it says that a call returns a value, the call does, in every order that may be drawn. -/
theorem evN_calls {P : Program} {Fs : F3} (hm : P.follows .mixedOrders = true) (hT : TabOk P Fs) (n : Nat) : CallOk P (evN Fs n) :=
  (evN_sound hT (draw_sound hm) n).1

end Go.Vm

/- A table that holds what the program holds; a closed call. -/
namespace Go.Vm
variable [Gl]

section
variable {P : Program}

def P1 (P : Program) (b : Nat) (x : F1) : Prop :=
  (∀ af, x.v0 = some af → cFunc P b = some af) ∧ (∀ af, x.v1 = some af → cFunc P (b + 1) = some af) ∧ (∀ af, x.v2 = some af → cFunc P (b + 2) = some af) ∧ (∀ af, x.v3 = some af → cFunc P (b + 3) = some af) ∧
  (∀ af, x.v4 = some af → cFunc P (b + 4) = some af) ∧ (∀ af, x.v5 = some af → cFunc P (b + 5) = some af) ∧ (∀ af, x.v6 = some af → cFunc P (b + 6) = some af) ∧ (∀ af, x.v7 = some af → cFunc P (b + 7) = some af)

def P2 (P : Program) (b : Nat) (y : F2) : Prop :=
  P1 P b y.v0 ∧ P1 P (b + 8) y.v1 ∧ P1 P (b + 16) y.v2 ∧ P1 P (b + 24) y.v3 ∧ P1 P (b + 32) y.v4 ∧ P1 P (b + 40) y.v5 ∧ P1 P (b + 48) y.v6 ∧ P1 P (b + 56) y.v7

def P3 (P : Program) (z : F3) : Prop :=
  P2 P 0 z.v0 ∧ P2 P 64 z.v1 ∧ P2 P 128 z.v2 ∧ P2 P 192 z.v3 ∧ P2 P 256 z.v4 ∧ P2 P 320 z.v5 ∧ P2 P 384 z.v6 ∧ P2 P 448 z.v7

theorem P1.get {b : Nat} {x : F1} (h : P1 P b x) : ∀ c, c < 8 → ∀ af, gF1 (digN c) x = some af → cFunc P (b + c) = some af := by
  obtain ⟨h0, h1, h2, h3, h4, h5, h6, h7⟩ := h
  intro c hc
  match c, hc with
  | 0, _ => exact h0
  | 1, _ => exact h1
  | 2, _ => exact h2
  | 3, _ => exact h3
  | 4, _ => exact h4
  | 5, _ => exact h5
  | 6, _ => exact h6
  | 7, _ => exact h7

theorem P2.get {b : Nat} {y : F2} (h : P2 P b y) : ∀ c, c < 8 → P1 P (b + 8 * c) (gF2 (digN c) y) := by
  obtain ⟨h0, h1, h2, h3, h4, h5, h6, h7⟩ := h
  intro c hc
  match c, hc with
  | 0, _ => exact h0
  | 1, _ => exact h1
  | 2, _ => exact h2
  | 3, _ => exact h3
  | 4, _ => exact h4
  | 5, _ => exact h5
  | 6, _ => exact h6
  | 7, _ => exact h7

theorem P3.get {z : F3} (h : P3 P z) : ∀ c, c < 8 → P2 P (64 * c) (gF3 (digN c) z) := by
  obtain ⟨h0, h1, h2, h3, h4, h5, h6, h7⟩ := h
  intro c hc
  match c, hc with
  | 0, _ => exact h0
  | 1, _ => exact h1
  | 2, _ => exact h2
  | 3, _ => exact h3
  | 4, _ => exact h4
  | 5, _ => exact h5
  | 6, _ => exact h6
  | 7, _ => exact h7

theorem tab_of {z : F3} (h : P3 P z) : TabOk P z := fun f fn hf hg => by
  have h3 := (((h.get (f / 64 % 8) (by omega)).get (f / 8 % 8) (by omega)).get (f % 8) (by omega)) fn hg
  have : 64 * (f / 64 % 8) + 8 * (f / 8 % 8) + f % 8 = f := by omega
  rw [this] at h3
  exact h3

theorem P1_none (b : Nat) : P1 P b ⟨none, none, none, none, none, none, none, none⟩ := by
  refine ⟨?_, ?_, ?_, ?_, ?_, ?_, ?_, ?_⟩ <;> (intro af h; cases h)

mutual
/-- A value that names no block. -/
def noRef : V → Bool
  | .bool _ | .int .. | .str _ | .nilptr | .nilsl | .nilmap | .nilFunc | .nilIface => true
  | .iface _ v => noRef v
  | .agg cs => noRefs cs
  | .tuple cs => noRefs cs
  | _ => false
def noRefs : List V → Bool
  | [] => true
  | v :: vs => noRef v && noRefs vs
end

omit [Gl] in
mutual
theorem VR.any {m : Mp} (m' : Mp) : ∀ (v : V) (cv : Value), noRef v = true → VR m v cv → VR m' v cv
  | .bool _, _, _, h => by simpa only [VR] using h
  | .int .., _, _, h => by simpa only [VR] using h
  | .str _, _, _, h => by simpa only [VR] using h
  | .nilptr, _, _, h => by simpa only [VR] using h
  | .nilsl, _, _, h => by simpa only [VR] using h
  | .nilmap, _, _, h => by simpa only [VR] using h
  | .nilFunc, _, _, h => by simpa only [VR] using h
  | .nilIface, _, _, h => by simpa only [VR] using h
  | .iface _ x, _, hn, h => by
    simp only [VR] at h ⊢
    obtain ⟨y, h1, h2⟩ := h
    exact ⟨y, h1, VR.any m' x y (by simpa only [noRef] using hn) h2⟩
  | .agg cs, _, hn, h => by
    simp only [VR] at h ⊢
    obtain ⟨a, h1, h2⟩ := h
    exact ⟨a, h1, VRs.any m' cs _ (by simpa only [noRef] using hn) h2⟩
  | .tuple cs, _, hn, h => by
    simp only [VR] at h ⊢
    obtain ⟨a, h1, h2⟩ := h
    exact ⟨a, h1, VRs.any m' cs _ (by simpa only [noRef] using hn) h2⟩
  | .ptr .., _, hn, _ => by simp only [noRef] at hn; cases hn
  | .slice .., _, hn, _ => by simp only [noRef] at hn; cases hn
  | .map .., _, hn, _ => by simp only [noRef] at hn; cases hn
  | .func .., _, hn, _ => by simp only [noRef] at hn; cases hn
theorem VRs.any {m : Mp} (m' : Mp) : ∀ (l : List V) (cl : List Value), noRefs l = true → VRs m l cl → VRs m' l cl
  | [], _, _, h => by simpa only [VRs] using h
  | v :: vs, _, hn, h => by
    simp only [noRefs, Bool.and_eq_true] at hn
    simp only [VRs] at h ⊢
    obtain ⟨y, ys, h1, h2, h3⟩ := h
    exact ⟨y, ys, h1, VR.any m' v y hn.1 h2, VRs.any m' vs ys hn.2 h3⟩
end

/-- What lay in the store lies there still. -/
structure Keeps (σ σ' : St) : Prop where
  next : σ.next ≤ σ'.next
  get : ∀ id, id < σ.next → σ'.mem.get id = σ.mem.get id

omit [Gl] in
theorem Keeps.refl (σ : St) : Keeps σ σ := ⟨Nat.le_refl _, fun _ _ => rfl⟩
omit [Gl] in
theorem Keeps.trans {a b c : St} (h : Keeps a b) (h' : Keeps b c) : Keeps a c :=
  ⟨Nat.le_trans h.next h'.next, fun id hid => (h'.get id (Nat.lt_of_lt_of_le hid h.next)).trans (h.get id hid)⟩
omit [Gl] in
theorem Keeps.new (σ : St) (b : Blk) : Keeps σ (σ.new b) :=
  ⟨Nat.le_succ _, fun id hid => St.new_get_ne σ b (by omega)⟩

omit [Gl] in
theorem Ext.still {lo : Nat} {m m' : Mp} {σ σ' : St} {w w' : World} (hx : Ext lo m σ w m' σ' w') : Ext lo m σ w m σ w' :=
  ⟨Le.refl m, fun _ _ h => h, Nat.le_refl _, fun _ _ _ => rfl, hx.size, hx.frame, fun _ _ h => h, fun _ _ h1 h2 => (none_some h2 h1).elim, hx.rows, hx.env⟩

/-- What was made beside may be forgotten. -/
theorem Does.forget {lo f : Nat} {args : List V} {σ σ' : St} {v : V} (h : Does P lo f args σ v σ') (hk : Keeps σ σ') (hv : noRef v = true) : Does P lo f args σ v σ := by
  intro m w cargs hR ha
  obtain ⟨h1, h2⟩ := h m w cargs hR ha
  refine ⟨h1, h2.mono ?_⟩
  rintro e w' ⟨cv, m', rfl, q1, q2, q3⟩
  exact ⟨cv, m, rfl, VR.any m _ _ hv q1, hR.before q3.le q2 q3 (fun id i hi => .inl (hk.get id (hR.dom id i hi).1)), q3.still⟩

/-- A store of package variables alone. -/
theorem Rel.start {lo : Nat} {m : Mp} {σ σ0 : St} {w : World} (hR : Rel lo m σ w) (h0 : σ0.next = Gl.ng)
    (hb : ∀ g, g < Gl.ng → σ0.mem.get g = .none ∨ ∃ cs anc, σ0.mem.get g = .cells cs false anc ∧ σ.mem.get g = .cells cs false anc ∧ noRefs cs = true) : Rel 0 (cut Gl.ng m) σ0 w where
  pins := fun g hg => by rw [cut_lt hg]; exact hR.pins g hg
  dom := fun id i hi => by
    obtain ⟨h1, h2⟩ := cut_some hi
    exact ⟨by omega, (hR.dom id i h2).2⟩
  cell := fun id i cs rw' anc hi hg j v hj => by
    obtain ⟨h1, h2⟩ := cut_some hi
    rcases hb id h1 with h3 | ⟨cs', anc', h3, h4, h5⟩
    · rw [h3] at hg; cases hg
    · rw [h3] at hg; cases hg
      obtain ⟨cv, q1, q2⟩ := hR.cell id i _ _ _ h2 h4 j v hj
      refine ⟨cv, q1, VR.any _ _ _ ?_ q2⟩
      clear h3 h4 hR q1
      induction cs generalizing j with
      | nil => cases hj
      | cons x xs ih =>
        simp only [noRefs, Bool.and_eq_true] at h5
        cases j with
        | zero => simp at hj; subst hj; exact h5.1
        | succ j => exact ih j (by simpa using hj) h5.2
  mp := fun id i es hi hg => by
    obtain ⟨h1, _⟩ := cut_some hi
    rcases hb id h1 with h3 | ⟨cs', anc', h3, _⟩ <;> (rw [h3] at hg; cases hg)
  own := fun id i cs anc _ hi hg => by
    obtain ⟨h1, _⟩ := cut_some hi
    rcases hb id h1 with h3 | ⟨cs', anc', h3, _⟩ <;> (rw [h3] at hg; cases hg)
  ownm := fun id i es _ hi hg => by
    obtain ⟨h1, _⟩ := cut_some hi
    rcases hb id h1 with h3 | ⟨cs', anc', h3, _⟩ <;> (rw [h3] at hg; cases hg)

theorem Does.closed {lo f : Nat} {σ σ0 σ1 : St} {v : V} (h : Does P 0 f [] σ0 v σ1) (h0 : σ0.next = Gl.ng) (hv : noRef v = true)
    (hb : ∀ g, g < Gl.ng → σ0.mem.get g = .none ∨ ∃ cs anc, σ0.mem.get g = .cells cs false anc ∧ σ.mem.get g = .cells cs false anc ∧ noRefs cs = true) : Does P lo f [] σ v σ := by
  intro m w cargs hR ha
  have hR0 := hR.start h0 hb
  obtain ⟨h1, h2⟩ := h _ w cargs hR0 (by have := VRs_nil_inv ha; rw [this]; exact VRs_nil _)
  refine ⟨h1, h2.mono ?_⟩
  rintro e w' ⟨cv, m', rfl, q1, q2, q3⟩
  have hno : ∀ cb, ¬ Owned 0 (cut Gl.ng m) σ0 cb := by
    rintro cb ⟨id, i, _, hi, _, hor⟩
    obtain ⟨h1, _⟩ := cut_some hi
    rcases hor with ⟨cs, anc, hg⟩ | ⟨es, hg⟩ <;> rcases hb id h1 with h3 | ⟨cs', anc', h3, _⟩ <;> (rw [h3] at hg; cases hg)
  have hold : ∀ cb, cb < w.heap.size → w'.heap[cb]? = w.heap[cb]? := fun cb hcb => q3.frame cb hcb (hno cb)
  exact ⟨cv, m, rfl, VR.any m _ _ hv q1, hR.grown hold q3.size, Le.refl m, fun _ _ h => h, Nat.le_refl _, fun _ _ _ => rfl, q3.size, fun cb hcb _ => hold cb hcb, fun _ _ h => h,
    fun _ _ h1 h2 => (none_some h2 h1).elim, q3.rows, q3.env⟩

def isT (r : R) : Bool := match r with
  | .v (.bool b) _ => b
  | _ => false

omit [Gl] in
theorem isT_true {r : R} (h : isT r = true) : ∃ σ, r = .v (.bool true) σ := by
  unfold isT at h
  split at h
  · subst h; exact ⟨_, rfl⟩
  · cases h

/-- A closed call that needs no package variable. -/
theorem closed_true {Fs : F3} (hm : P.follows .mixedOrders = true) (hT : TabOk P Fs) {n f : Nat} (h : isT (evCall Fs (evN Fs n) 0 f [] ⟨M.nil, Gl.ng⟩) = true) (lo : Nat) (σ : St) :
    Does P lo f [] σ (.bool true) σ := by
  obtain ⟨σ', hr⟩ := isT_true h
  exact (evN_calls hm hT (n + 1) 0 f [] _ σ' (.bool true) hr).closed rfl rfl fun g _ => .inl (M.nil_get g)

end

end Go.Vm

