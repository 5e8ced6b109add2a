/- What a run leads to, as a predicate that is reckoned from the code: to walk by. -/
import Derived.Test.YtcnhfdljfjgmkaaGreatDoorVmB
import Derived.Below
import Derived.Deep.Draws
import Derived.Lib.ConvBytes
import Derived.Deep.Slices
import Derived.ChangeSame
import Derived.Carry
import Derived.RowKit
import Derived.WalkKit
import Derived.OpenShut
import Derived.ProofKit
namespace Go.Vm
variable [Gl]

noncomputable section
abbrev Fn := Nat → V

def N8.tab {α : Type} (f : Nat → α) : N8 α := ⟨f 0, f 1, f 2, f 3, f 4, f 5, f 6, f 7⟩

/-- Slots as a function. -/
def ofF (F : Fn) : E := N8.tab fun a => N8.tab fun b => N8.tab fun c => F (64 * a + 8 * b + c)

def put (F : Fn) (k : Nat) (v : V) : Fn := fun n => cond (Nat.beq n k) v (F n)
def putD (d : Option Nat) (v : V) (F : Fn) : Fn := Option.rec (motive := fun _ => Fn) F (fun d => put F d v) d

omit [Gl] in
theorem put_same (F : Fn) (k : Nat) (v : V) : put F k v k = v := by simp [put]
omit [Gl] in
theorem put_ne (F : Fn) {n k : Nat} (v : V) (h : n ≠ k) : put F k v n = F n := by
  have : Nat.beq n k = false := by
    cases hb : Nat.beq n k with
    | false => rfl
    | true => exact absurd (Nat.eq_of_beq_eq_true hb) h
  simp [put, this]
omit [Gl] in
theorem put_self (F : Fn) (k : Nat) : put F k (F k) = F := by
  funext n
  by_cases h : n = k
  · subst h; exact put_same _ _ _
  · exact put_ne _ _ h

omit [Gl] in
theorem tab_ext {α : Type} {f g : Nat → α} (h : ∀ i, i < 8 → f i = g i) : N8.tab f = N8.tab g := by
  unfold N8.tab
  rw [h 0 (by omega), h 1 (by omega), h 2 (by omega), h 3 (by omega), h 4 (by omega), h 5 (by omega), h 6 (by omega), h 7 (by omega)]

omit [Gl] in
theorem gE1_tab (f : Nat → V) : ∀ i, i < 8 → gE1 (digN i) (N8.tab f) = f i
  | 0, _ => rfl | 1, _ => rfl | 2, _ => rfl | 3, _ => rfl | 4, _ => rfl | 5, _ => rfl | 6, _ => rfl | 7, _ => rfl
  | _ + 8, h => absurd h (by omega)
omit [Gl] in
theorem gE2_tab (f : Nat → E1) : ∀ i, i < 8 → gE2 (digN i) (N8.tab f) = f i
  | 0, _ => rfl | 1, _ => rfl | 2, _ => rfl | 3, _ => rfl | 4, _ => rfl | 5, _ => rfl | 6, _ => rfl | 7, _ => rfl
  | _ + 8, h => absurd h (by omega)
omit [Gl] in
theorem gE3_tab (f : Nat → E2) : ∀ i, i < 8 → gE3 (digN i) (N8.tab f) = f i
  | 0, _ => rfl | 1, _ => rfl | 2, _ => rfl | 3, _ => rfl | 4, _ => rfl | 5, _ => rfl | 6, _ => rfl | 7, _ => rfl
  | _ + 8, h => absurd h (by omega)

def chg {α : Type} (f : Nat → α) (i : Nat) (x : α) : Nat → α := fun j => cond (Nat.beq j i) x (f j)

omit [Gl] in
theorem uE1_tab (g : V → V) (f : Nat → V) : ∀ i, i < 8 → uE1 (digN i) g (N8.tab f) = N8.tab (chg f i (g (f i)))
  | 0, _ => rfl | 1, _ => rfl | 2, _ => rfl | 3, _ => rfl | 4, _ => rfl | 5, _ => rfl | 6, _ => rfl | 7, _ => rfl
  | _ + 8, h => absurd h (by omega)
omit [Gl] in
theorem uE2_tab (g : E1 → E1) (f : Nat → E1) : ∀ i, i < 8 → uE2 (digN i) g (N8.tab f) = N8.tab (chg f i (g (f i)))
  | 0, _ => rfl | 1, _ => rfl | 2, _ => rfl | 3, _ => rfl | 4, _ => rfl | 5, _ => rfl | 6, _ => rfl | 7, _ => rfl
  | _ + 8, h => absurd h (by omega)
omit [Gl] in
theorem uE3_tab (g : E2 → E2) (f : Nat → E2) : ∀ i, i < 8 → uE3 (digN i) g (N8.tab f) = N8.tab (chg f i (g (f i)))
  | 0, _ => rfl | 1, _ => rfl | 2, _ => rfl | 3, _ => rfl | 4, _ => rfl | 5, _ => rfl | 6, _ => rfl | 7, _ => rfl
  | _ + 8, h => absurd h (by omega)

omit [Gl] in
theorem chg_same {α : Type} (f : Nat → α) (i : Nat) (x : α) : chg f i x i = x := by simp [chg]
omit [Gl] in
theorem chg_ne {α : Type} (f : Nat → α) {i j : Nat} (x : α) (h : j ≠ i) : chg f i x j = f j := by
  have : Nat.beq j i = false := by
    cases hb : Nat.beq j i with
    | false => rfl
    | true => exact absurd (Nat.eq_of_beq_eq_true hb) h
  simp [chg, this]

omit [Gl] in
theorem get_ofF (F : Fn) {n : Nat} (h : n < 512) : (ofF F).get n = F n := by
  unfold E.get ofF dg0 dg1 dg2
  have hn : 64 * (Nat.mod (Nat.div n 64) 8) + 8 * (Nat.mod (Nat.div n 8) 8) + Nat.mod n 8 = n := by
    show 64 * (n / 64 % 8) + 8 * (n / 8 % 8) + n % 8 = n
    omega
  have h0 : Nat.mod n 8 < 8 := Nat.mod_lt _ (by omega)
  have h1 : Nat.mod (Nat.div n 8) 8 < 8 := Nat.mod_lt _ (by omega)
  have h2 : Nat.mod (Nat.div n 64) 8 < 8 := Nat.mod_lt _ (by omega)
  rw [gE3_tab _ _ h2, gE2_tab _ _ h1, gE1_tab _ _ h0, hn]

omit [Gl] in
theorem set_ofF (F : Fn) {n : Nat} (h : n < 512) (v : V) : (ofF F).set n v = ofF (put F n v) := by
  unfold E.set ofF dg0 dg1 dg2
  have hn : 64 * (Nat.mod (Nat.div n 64) 8) + 8 * (Nat.mod (Nat.div n 8) 8) + Nat.mod n 8 = n := by
    show 64 * (n / 64 % 8) + 8 * (n / 8 % 8) + n % 8 = n
    omega
  have h0 : Nat.mod n 8 < 8 := Nat.mod_lt _ (by omega)
  have h1 : Nat.mod (Nat.div n 8) 8 < 8 := Nat.mod_lt _ (by omega)
  have h2 : Nat.mod (Nat.div n 64) 8 < 8 := Nat.mod_lt _ (by omega)
  generalize Nat.mod n 8 = c, Nat.mod (Nat.div n 8) 8 = b, Nat.mod (Nat.div n 64) 8 = a at *
  rw [uE3_tab _ _ _ h2, uE2_tab _ _ _ h1, uE1_tab _ _ _ h0]
  refine tab_ext fun i hi => ?_
  by_cases e2 : i = a
  · subst e2
    rw [chg_same]
    refine tab_ext fun j hj => ?_
    by_cases e1 : j = b
    · subst e1
      rw [chg_same]
      refine tab_ext fun k hk => ?_
      by_cases e0 : k = c
      · subst e0; rw [chg_same, hn, put_same]
      · rw [chg_ne _ _ e0, put_ne _ _ (by omega)]
    · rw [chg_ne _ _ e1]
      refine tab_ext fun k hk => ?_
      rw [put_ne _ _ (by omega)]
  · rw [chg_ne _ _ e2]
    refine tab_ext fun j hj => tab_ext fun k hk => ?_
    rw [put_ne _ _ (by omega)]

omit [Gl] in
theorem nil_ofF : E.nil = ofF fun _ => undefV := rfl

def opF (x : Opd) : Fn → V := Opd.rec (motive := fun _ => Fn → V) (fun n F => F n) (fun v _ => v) (fun n _ => .ptr n 0) x

omit [Gl] in
theorem opd_ofF {x : Opd} (h : ∀ n ∈ rd x, n < 512) (F : Fn) : opd x (ofF F) = opF x F := by
  cases x with
  | t n => exact get_ofF F (h n (by simp [rd]))
  | c v => rfl
  | g n => rfl

def opsF (l : List Opd) (F : Fn) : List V := l.map fun x => opF x F

omit [Gl] in
theorem opds_ofF : ∀ {l : List Opd}, (∀ n ∈ rdL l, n < 512) → ∀ F, opds l (ofF F) = opsF l F
  | [], _, _ => rfl
  | x :: l, h, F => by
    show opd x (ofF F) :: opds l (ofF F) = opF x F :: opsF l F
    rw [opd_ofF (fun n hn => h n (by simp [rdL, hn])), opds_ofF (l := l) (fun n hn => h n (by simp [rdL]; exact .inr (by simpa [rdL] using hn)))]

/-! What is asked of values. -/
def force (v : V) (C : V → Prop) : Prop :=
  match v with
  | .bool b => C (.bool b) | .int k n => C (.int k n) | .str s => C (.str s) | .nilptr => C .nilptr | .ptr b o => C (.ptr b o) | .nilsl => C .nilsl | .slice b o n c => C (.slice b o n c)
  | .nilmap => C .nilmap | .map r => C (.map r) | .func f a b => C (.func f a b) | .nilFunc => C .nilFunc | .iface t v => C (.iface t v) | .nilIface => C .nilIface | .agg cs => C (.agg cs) | .tuple vs => C (.tuple vs)
omit [Gl] in
theorem force_eq (v : V) (C : V → Prop) : force v C = C v := by cases v <;> rfl

def forceL (l : List Opd) : Fn → (List V → Prop) → Prop :=
  List.rec (motive := fun _ => Fn → (List V → Prop) → Prop) (fun _ C => C []) (fun x _ ih F C => force (opF x F) fun v => ih F fun vs => C (v :: vs)) l
omit [Gl] in
theorem forceL_eq : ∀ (l : List Opd) (F : Fn) (C : List V → Prop), forceL l F C = C (opsF l F)
  | [], _, _ => rfl
  | x :: l, F, C => by
    show force (opF x F) (fun v => forceL l F fun vs => C (v :: vs)) = _
    rw [force_eq, forceL_eq l F]; rfl

def onB (v : V) (D : Bool → Prop) : Prop := match v with | .bool b => D b | _ => False
def onI (v : V) (D : IntKind → Int → Prop) : Prop := match v with | .int k n => D k n | _ => False
def onS (v : V) (D : List Nat → Prop) : Prop := match v with | .str s => D s | _ => False
def onP (v : V) (D : Nat → Nat → Prop) : Prop := match v with | .ptr b o => D b o | _ => False
def onA (v : V) (D : List V → Prop) : Prop := match v with | .agg cs => D cs | _ => False
def onT (v : V) (D : List V → Prop) : Prop := match v with | .tuple cs => D cs | _ => False
def onV (o : Option V) (C : V → Prop) : Prop := match o with | some v => C v | none => False
def onL (o : Option (List V)) (C : List V → Prop) : Prop := match o with | some v => C v | none => False
def branch (t : Bool) (A : Bool → Prop) : Prop := match t with | true => A true | false => A false
/-- An index. -/
def onN (v : V) (D : Nat → Prop) : Prop := match v with | .int _ n => 0 ≤ n ∧ D n.toNat | _ => False

omit [Gl] in
theorem branch_eq (t : Bool) (A : Bool → Prop) : branch t A = A t := by cases t <;> rfl
omit [Gl] in
theorem onN_some {v : V} {D : Nat → Prop} (h : onN v D) : ∃ k, natOf v = some k ∧ D k := by
  cases v <;> try exact h.elim
  obtain ⟨h1, h2⟩ := h
  rename_i k n
  cases n with
  | ofNat n => exact ⟨n, rfl, h2⟩
  | negSucc n => exact absurd h1 (by simp)
omit [Gl] in
theorem onV_some {o : Option V} {C : V → Prop} (h : onV o C) : ∃ v, o = some v ∧ C v := by
  cases o with
  | none => exact h.elim
  | some v => exact ⟨v, rfl, h⟩
omit [Gl] in
theorem onL_some {o : Option (List V)} {C : List V → Prop} (h : onL o C) : ∃ v, o = some v ∧ C v := by
  cases o with
  | none => exact h.elim
  | some v => exact ⟨v, rfl, h⟩

def wnum (k : IntKind) (n : Int) (C : V → Prop) : Prop :=
  match k with
  | .i64 => (-9223372036854775808 ≤ n ∧ n ≤ 9223372036854775807) ∧ C (.int .i64 n)
  | k => C (.int k (wrapF k n))

omit [Gl] in
theorem wrapF_i64 {n : Int} (h1 : -9223372036854775808 ≤ n) (h2 : n ≤ 9223372036854775807) : wrapF .i64 n = n := by
  unfold wrapF
  have : inRange .i64 n = true := by
    cases n with
    | ofNat m =>
      show Nat.ble m 9223372036854775807 = true
      exact Nat.ble_eq_true_of_le (by simp at h2; omega)
    | negSucc m =>
      show Nat.ble m 9223372036854775807 = true
      exact Nat.ble_eq_true_of_le (by omega)
  rw [this]; rfl

omit [Gl] in
theorem wnum_ok {k : IntKind} {n : Int} {C : V → Prop} (h : wnum k n C) : C (.int k (wrapF k n)) := by
  cases k <;> first | exact h | (obtain ⟨⟨h1, h2⟩, h3⟩ := h; rw [wrapF_i64 h1 h2]; exact h3)

def wint (op : BinOp) (k : IntKind) (a : Int) (k' : IntKind) (b : Int) (C : V → Prop) : Prop :=
  match op with
  | .add => cond (ikEq k k') (wnum k (a + b) C) False
  | .sub => cond (ikEq k k') (wnum k (a - b) C) False
  | .mul => cond (ikEq k k') (wnum k (a * b) C) False
  | .quo => cond (ikEq k k') (b ≠ 0 ∧ wnum k (a.tdiv b) C) False
  | .rem => cond (ikEq k k') (b ≠ 0 ∧ C (.int k (a.tmod b))) False
  | .and => cond (ikEq k k') (onV (bitV Nat.land k a b) C) False
  | .or => cond (ikEq k k') (onV (bitV Nat.lor k a b) C) False
  | .xor => cond (ikEq k k') (onV (bitV Nat.xor k a b) C) False
  | .shl => onV (shlV k a b) C
  | .shr => onV (shrV k a b) C
  | .andNot => False
  | .eql => cond (ikEq k k') (C (.bool (decide (a = b)))) False
  | .neq => cond (ikEq k k') (C (.bool (decide (a ≠ b)))) False
  | .lss => cond (ikEq k k') (C (.bool (decide (a < b)))) False
  | .leq => cond (ikEq k k') (C (.bool (decide (a ≤ b)))) False
  | .gtr => cond (ikEq k k') (C (.bool (decide (b < a)))) False
  | .geq => cond (ikEq k k') (C (.bool (decide (b ≤ a)))) False

def wstr (op : BinOp) (s t : List Nat) (C : V → Prop) : Prop :=
  match op with
  | .add => s.length + t.length ≤ 4611686018427387904 ∧ C (.str (s ++ t))
  | .eql => C (.bool (decide (s = t)))
  | .neq => C (.bool (decide (s ≠ t)))
  | .lss => C (.bool (lessB s t))
  | .leq => C (.bool (lessB s t || decide (s = t)))
  | .gtr => C (.bool (!(lessB s t || decide (s = t))))
  | .geq => C (.bool (!lessB s t))
  | _ => False

def wbin (op : BinOp) (x y : V) (C : V → Prop) : Prop :=
  match x, y with
  | .int k a, .int k' b => wint op k a k' b C
  | .str s, .str t => wstr op s t C
  | _, _ => False

omit [Gl] in
theorem cond_and {b : Bool} {p : Prop} (h : cond b p False) : b = true ∧ p := by
  cases b with
  | false => exact h.elim
  | true => exact ⟨rfl, h⟩

omit [Gl] in
theorem not_decide (p : Prop) [Decidable p] : (!decide p) = decide (¬ p) := by by_cases h : p <;> simp [h]

omit [Gl] in
theorem eqB_dec (a b : List Nat) : eqB a b = decide (a = b) := by
  rw [eqB_eq]
  by_cases h : a = b <;> simp [h]

omit [Gl] in
theorem wint_ok {op : BinOp} {k k' : IntKind} {a b : Int} {C : V → Prop} (h : wint op k a k' b C) : ∃ v, binV op (.int k a) (.int k' b) = some v ∧ C v := by
  have go : ∀ {v : V} {p : Prop}, cond (ikEq k k') p False → (p → C v) → (ikEq k k' = true → binV op (.int k a) (.int k' b) = some v) → ∃ v, binV op (.int k a) (.int k' b) = some v ∧ C v := by
    intro v p hc hp hb
    obtain ⟨h1, h2⟩ := cond_and hc
    exact ⟨v, hb h1, hp h2⟩
  have eb : ikEq k k' = true → ∀ (o : Option V), intBin op k a b = o → binV op (.int k a) (.int k' b) = o := by
    intro hk o ho
    show cond (ikEq k k' || isShift op) (intBin op k a b) none = o
    rw [hk]; exact ho
  cases op
  case add => exact go h wnum_ok fun hk => eb hk _ rfl
  case sub => exact go h wnum_ok fun hk => eb hk _ rfl
  case mul => exact go h wnum_ok fun hk => eb hk _ rfl
  case quo =>
    refine go h (fun hp => wnum_ok hp.2) fun hk => eb hk _ ?_
    show cond (intEq b 0) none _ = _
    rw [intEq_eq, beq_eq_false_iff_ne.2 (cond_and h).2.1]; rfl
  case rem =>
    refine go h (fun hp => hp.2) fun hk => eb hk _ ?_
    show cond (intEq b 0) none _ = _
    rw [intEq_eq, beq_eq_false_iff_ne.2 (cond_and h).2.1]; rfl
  case and => obtain ⟨h1, h2⟩ := cond_and h; obtain ⟨v, h3, h4⟩ := onV_some h2; exact ⟨v, eb h1 _ h3, h4⟩
  case or => obtain ⟨h1, h2⟩ := cond_and h; obtain ⟨v, h3, h4⟩ := onV_some h2; exact ⟨v, eb h1 _ h3, h4⟩
  case xor => obtain ⟨h1, h2⟩ := cond_and h; obtain ⟨v, h3, h4⟩ := onV_some h2; exact ⟨v, eb h1 _ h3, h4⟩
  case shl =>
    obtain ⟨v, h3, h4⟩ := onV_some h
    refine ⟨v, ?_, h4⟩
    show cond (ikEq k k' || true) (shlV k a b) none = _
    rw [Bool.or_true]; exact h3
  case shr =>
    obtain ⟨v, h3, h4⟩ := onV_some h
    refine ⟨v, ?_, h4⟩
    show cond (ikEq k k' || true) (shrV k a b) none = _
    rw [Bool.or_true]; exact h3
  case andNot => exact h.elim
  case eql =>
    refine go h id fun hk => eb hk _ ?_
    show some (V.bool (intEq a b)) = _
    rw [intEq_eq]
    by_cases e : a = b <;> simp [e]
  case neq =>
    refine go h id fun hk => eb hk _ ?_
    show some (V.bool (not (intEq a b))) = _
    rw [intEq_eq]
    by_cases e : a = b <;> simp [e]
  case lss => exact go h id fun hk => eb hk _ (by show some (V.bool (intLt a b)) = _; rw [intLt_eq])
  case leq =>
    refine go h id fun hk => eb hk _ ?_
    show some (V.bool (not (intLt b a))) = _
    rw [intLt_eq, not_decide, decide_eq_decide.2 (by omega : ¬ b < a ↔ a ≤ b)]
  case gtr => exact go h id fun hk => eb hk _ (by show some (V.bool (intLt b a)) = _; rw [intLt_eq])
  case geq =>
    refine go h id fun hk => eb hk _ ?_
    show some (V.bool (not (intLt a b))) = _
    rw [intLt_eq, not_decide, decide_eq_decide.2 (by omega : ¬ a < b ↔ b ≤ a)]

omit [Gl] in
theorem wstr_ok {op : BinOp} {s t : List Nat} {C : V → Prop} (h : wstr op s t C) : ∃ v, binV op (.str s) (.str t) = some v ∧ C v := by
  cases op <;> try exact h.elim
  case add =>
    refine ⟨_, ?_, h.2⟩
    show catV s t = _
    unfold catV
    rw [sizeS_eq, sizeS_eq, Nat.ble_eq_true_of_le (show Nat.add s.length t.length ≤ _ from h.1), catB_eq]; rfl
  case eql => exact ⟨_, rfl, by rw [show eqB s t = _ from eqB_dec s t]; exact h⟩
  case neq => exact ⟨_, rfl, by rw [show eqB s t = _ from eqB_dec s t, not_decide]; exact h⟩
  case lss => exact ⟨_, rfl, h⟩
  case leq => exact ⟨_, rfl, by rw [show eqB s t = _ from eqB_dec s t]; exact h⟩
  case gtr => exact ⟨_, rfl, by rw [show eqB s t = _ from eqB_dec s t]; exact h⟩
  case geq => exact ⟨_, rfl, h⟩

omit [Gl] in
theorem wbin_ok {op : BinOp} {x y : V} {C : V → Prop} (h : wbin op x y C) : ∃ v, binV op x y = some v ∧ C v := by
  unfold wbin at h
  split at h
  · exact wint_ok h
  · exact wstr_ok h
  · exact h.elim

/-! Equality, said plainly. -/
def intKeyN (x y : V) : Option Bool := match x, y with | .int k a, .int k' b => cond (ikEq k k') (some (decide (a = b))) none | _, _ => none
def strKeyN (x y : V) : Option Bool := match x, y with | .str a, .str b => some (decide (a = b)) | _, _ => none
def keyEqN (kk : Nat) (x y : V) : Option Bool := match kk with | 0 => intKeyN x y | 1 => strKeyN x y | kk => keyEq kk x y
def flatEqN (cs : List Nat) : List V → List V → Option Bool :=
  List.rec (motive := fun _ => List V → List V → Option Bool) (fun _ _ => some true)
    (fun c _ ih xs ys => match xs, ys with | x :: xs, y :: ys => andO (keyEqN c x y) (ih xs ys) | _, _ => none) cs
def eqFlatN (cs : List Nat) (x y : V) : Option Bool := match x, y with | .agg xs, .agg ys => flatEqN cs xs ys | _, _ => none
def eqN (k : EqK) (x y : V) : Option Bool := match k with | .bool => boolKey x y | .nil n => eqNilV n x y | .iface => eqIfaceV x y | .flat cs => eqFlatN cs x y

omit [Gl] in
theorem intKeyN_eq (x y : V) : intKey x y = intKeyN x y := by
  cases x <;> cases y <;> try rfl
  rename_i k a k' b
  show cond (ikEq k k') (some (intEq a b)) none = cond (ikEq k k') (some (decide (a = b))) none
  rw [intEq_eq]; rfl
omit [Gl] in
theorem strKeyN_eq (x y : V) : strKey x y = strKeyN x y := by
  cases x <;> cases y <;> try rfl
  rename_i a b
  show some (eqB a b) = some (decide (a = b))
  rw [eqB_dec]
omit [Gl] in
theorem keyEqN_eq (kk : Nat) (x y : V) : keyEq kk x y = keyEqN kk x y := by
  unfold keyEqN
  split
  · exact intKeyN_eq x y
  · exact strKeyN_eq x y
  · rfl
omit [Gl] in
theorem flatEqN_eq : ∀ (cs : List Nat) (xs ys : List V), flatEq cs xs ys = flatEqN cs xs ys
  | [], _, _ => rfl
  | c :: cs, [], ys => by cases ys <;> rfl
  | c :: cs, x :: xs, [] => rfl
  | c :: cs, x :: xs, y :: ys => by
    show andO (keyEq c x y) (flatEq cs xs ys) = andO (keyEqN c x y) (flatEqN cs xs ys)
    rw [keyEqN_eq, flatEqN_eq cs xs ys]
omit [Gl] in
theorem eqN_eq (k : EqK) (x y : V) : eqV k x y = eqN k x y := by
  cases k with
  | flat cs =>
    show eqFlatV cs x y = eqFlatN cs x y
    cases x <;> cases y <;> try rfl
    exact flatEqN_eq _ _ _
  | _ => rfl

end

end Go.Vm

/- Operations, regions, code and functions as predicates; that they are right. -/
namespace Go.Vm
variable [Gl]

noncomputable section
variable {P : Program}

def forceP2 (l : List (Nat × Opd)) : Nat → Fn → (List Part → Prop) → Prop :=
  List.rec (motive := fun _ => Nat → Fn → (List Part → Prop) → Prop) (fun _ _ C => C []) (fun p _ ih esz F C => force (opF p.2 F) fun v => ih esz F fun vs => C (⟨Nat.mul p.1 esz, esz, v⟩ :: vs)) l
def forceP3 (l : List (Nat × Nat × Opd)) : Fn → (List Part → Prop) → Prop :=
  List.rec (motive := fun _ => Fn → (List Part → Prop) → Prop) (fun _ C => C []) (fun p _ ih F C => force (opF p.2.2 F) fun v => ih F fun vs => C (⟨p.1, p.2.1, v⟩ :: vs)) l

omit [Gl] in
theorem forceP2_eq : ∀ (l : List (Nat × Opd)) (esz : Nat) (F : Fn) (C : List Part → Prop), (∀ n ∈ rd2 l, n < 512) → forceP2 l esz F C → C (opds2 l esz (ofF F))
  | [], _, _, _, _, h => h
  | x :: l, esz, F, C, hs, h => by
    have h' : force (opF x.2 F) (fun v => forceP2 l esz F fun vs => C (⟨Nat.mul x.1 esz, esz, v⟩ :: vs)) := h
    rw [force_eq] at h'
    show C (⟨Nat.mul x.1 esz, esz, opd x.2 (ofF F)⟩ :: opds2 l esz (ofF F))
    rw [opd_ofF (fun n hn => hs n (by simp only [rd2, List.flatMap_cons, List.mem_append]; exact .inl hn))]
    exact forceP2_eq l esz F _ (fun n hn => hs n (by simp only [rd2, List.flatMap_cons, List.mem_append]; exact .inr hn)) h'
omit [Gl] in
theorem forceP3_eq : ∀ (l : List (Nat × Nat × Opd)) (F : Fn) (C : List Part → Prop), (∀ n ∈ rd3 l, n < 512) → forceP3 l F C → C (opds3 l (ofF F))
  | [], _, _, _, h => h
  | x :: l, F, C, hs, h => by
    have h' : force (opF x.2.2 F) (fun v => forceP3 l F fun vs => C (⟨x.1, x.2.1, v⟩ :: vs)) := h
    rw [force_eq] at h'
    show C (⟨x.1, x.2.1, opd x.2.2 (ofF F)⟩ :: opds3 l (ofF F))
    rw [opd_ofF (fun n hn => hs n (by simp only [rd3, List.flatMap_cons, List.mem_append]; exact .inl hn))]
    exact forceP3_eq l F _ (fun n hn => hs n (by simp only [rd3, List.flatMap_cons, List.mem_append]; exact .inr hn)) h'

def optF (F : Fn) (x : Option Opd) (D : Option Nat → Prop) : Prop := match x with | none => D none | some x => onN (opF x F) fun k => D (some k)
omit [Gl] in
theorem optF_ok {F : Fn} {x : Option Opd} {D : Option Nat → Prop} (hs : ∀ n ∈ rdO x, n < 512) (h : optF F x D) : ∃ r, natOpt (ofF F) x = some r ∧ D r := by
  cases x with
  | none => exact ⟨none, rfl, h⟩
  | some x =>
    have h' : onN (opF x F) (fun k => D (some k)) := h
    obtain ⟨k, h1, h2⟩ := onN_some h'
    refine ⟨some k, ?_, h2⟩
    show someO (natOf (opd x (ofF F))) = _
    rw [opd_ofF (fun n hn => hs n hn), h1]; rfl

/-- What is written: the block's list of cells is changed. -/
def wwrite (lo : Nat) (σ : St) (b o : Nat) (vs : List V) (C : St → Prop) : Prop :=
  match vs with
  | [] => C σ
  | vs => ∃ l anc, σ.mem.get b = .cells l true anc ∧ (lo ≤ b ∧ ∀ a ∈ anc, lo ≤ a) ∧ cond (cellsOk vs) (onL (over l o vs) fun l' => C { mem := (kill anc σ.mem).set b (.cells l' true []), next := σ.next }) False

omit [Gl] in
theorem leAll_of {lo : Nat} : ∀ {l : List Nat}, (∀ a ∈ l, lo ≤ a) → leAll lo l = true
  | [], _ => rfl
  | a :: l, h => by
    show cond (Nat.ble lo a) (leAll lo l) false = true
    rw [Nat.ble_eq_true_of_le (h a (by simp)), leAll_of (l := l) fun x hx => h x (by simp [hx])]; rfl

omit [Gl] in
theorem wwrite_ok {lo : Nat} {σ : St} {b o : Nat} {vs : List V} {C : St → Prop} (h : wwrite lo σ b o vs C) : ∃ σ', writeN lo σ b o vs = some σ' ∧ C σ' := by
  cases vs with
  | nil => exact ⟨σ, rfl, h⟩
  | cons v vs =>
    obtain ⟨l, anc, h1, ⟨h2, h3⟩, h4⟩ := h
    obtain ⟨h5, h6⟩ := cond_and h4
    obtain ⟨l', h7, h8⟩ := onL_some h6
    refine ⟨_, ?_, h8⟩
    show writeC lo σ b o (v :: vs) (σ.mem.get b) = _
    rw [h1]
    show cond true (cond (Nat.ble lo b) (cond (leAll lo anc) (cond (cellsOk (v :: vs)) (putB σ b anc (over l o (v :: vs))) none) none) none) none = _
    rw [Nat.ble_eq_true_of_le h2, leAll_of h3, h5, h7]; rfl

/-- A row of cells that is read. -/
def wread (σ : St) (b o n : Nat) (C : List V → Prop) : Prop := ∃ l rw anc, σ.mem.get b = .cells l rw anc ∧ onL (takeN n (dropN o l)) C
omit [Gl] in
theorem wread_ok {σ : St} {b o n : Nat} {C : List V → Prop} (h : wread σ b o n C) : ∃ cs, readN σ b o n = some cs ∧ C cs := by
  obtain ⟨l, rw', anc, h1, h2⟩ := h
  obtain ⟨cs, h3, h4⟩ := onL_some h2
  refine ⟨cs, ?_, h4⟩
  unfold readN
  rw [h1]; exact h3

/-- A place in a row. -/
def mulE (k esz : Nat) : Nat := match esz with | 1 => k | n => k * n
omit [Gl] in
theorem mulE_eq (k esz : Nat) : mulE k esz = k * esz := by
  unfold mulE
  split <;> simp

def wcall (P : Program) (lo f : Nat) (args : List V) (σ : St) (C : V → St → Prop) : Prop := ∃ v σ', Does P lo f args σ v σ' ∧ C v σ'
def wval (lo : Nat) (op : AOp) (F : Fn) (σ : St) (C : V → St → Prop) : Prop := ∃ v σ', (∀ ev, evOp op ev lo (ofF F) σ = .v v σ') ∧ C v σ'

/-- The first elements of what is appended or copied. -/
def wfirst (esz n : Nat) (σ : St) (x : V) (C : List V → Prop) : Prop :=
  match x with
  | .nilsl => C []
  | .slice b o _ _ => wread σ b o (Nat.mul n esz) C
  | .str s => cond (Nat.beq esz 1) (onL (takeN n (bytesV s)) C) False
  | _ => False
omit [Gl] in
theorem wfirst_ok {esz n : Nat} {σ : St} {x : V} {C : List V → Prop} (h : wfirst esz n σ x C) : ∃ cs, firstN esz n σ x = some cs ∧ C cs := by
  unfold wfirst at h
  split at h
  · exact ⟨[], rfl, h⟩
  · exact wread_ok h
  · obtain ⟨h1, h2⟩ := cond_and h
    obtain ⟨cs, h3, h4⟩ := onL_some h2
    refine ⟨cs, ?_, h4⟩
    show cond (Nat.beq esz 1) _ none = _
    rw [h1]; exact h3
  · exact h.elim

def onLen (x : V) (D : Nat → Prop) : Prop := match x with | .nilsl => D 0 | .slice _ _ n _ => D n | .str s => D s.length | _ => False
omit [Gl] in
theorem onLen_ok {x : V} {D : Nat → Prop} (h : onLen x D) : ∃ n, lenV x = some n ∧ D n := by
  cases x <;> try exact h.elim
  · exact ⟨_, rfl, by rw [sizeS_eq]; exact h⟩
  · exact ⟨_, rfl, h⟩
  · exact ⟨_, rfl, h⟩

def wlen (σ : St) (k : Nat) (x : V) (C : V → Prop) : Prop :=
  match k with
  | 0 => onS x fun s => C (.int .i64 (s.length : Int))
  | 1 => match x with | .nilsl => C (.int .i64 0) | .slice _ _ n _ => C (.int .i64 (n : Int)) | _ => False
  | _ => match x with | .nilmap => C (.int .i64 0) | .map r => ∃ es, σ.mem.get r = .map es ∧ C (.int .i64 (lenEs es : Int)) | _ => False

def wop (P : Program) (lo : Nat) (op : AOp) (F : Fn) (σ : St) (C : V → St → Prop) : Prop :=
  match op with
  | .mov x => force (opF x F) fun v => C v σ
  | .pick c a b => onB (opF c F) fun t => branch t fun t => force (cond t (opF a F) (opF b F)) fun v => C v σ
  | .alloc zero => C (.ptr σ.next 0) (σ.new (.cells zero true []))
  | .box n x => force (opF x F) fun v => cond (Nat.beq (lenN v.cells) n) (C (.ptr σ.next 0) (σ.new (.cells v.cells true []))) False
  | .build zero parts => forceP3 parts F fun ps => onL (fillP ps zero) fun cs => C (.agg cs) σ
  | .bslice zero len esz parts => forceP2 parts esz F fun ps => onL (fillP ps zero) fun cs => C (.slice σ.next 0 len (.is len)) (σ.new (.cells cs true []))
  | .load agg n a => onP (opF a F) fun b o => wread σ b o n fun cs => onV (asV agg (some cs)) fun v => C v σ
  | .store n a x => onP (opF a F) fun b o => force (opF x F) fun v => cond (Nat.beq (lenN v.cells) n) (wwrite lo σ b o v.cells fun σ' => C undefV σ') False
  | .nilck x => onV (nilckV (opF x F)) fun v => C v σ
  | .bin op x y => wbin op (opF x F) (opF y F) fun v => C v σ
  | .eq neg k x y => match eqN k (opF x F) (opF y F) with | some b => C (.bool (cond neg (!b) b)) σ | none => False
  | .un .not x => onB (opF x F) fun t => C (.bool (!t)) σ
  | .un .neg x => onI (opF x F) fun k n => wnum k (0 - n) fun v => C v σ
  | .un _ _ => False
  | .toInt k x => onI (opF x F) fun _ n => wnum k n fun v => C v σ
  | .strstr x => onS (opF x F) fun s => C (.str s) σ
  | .bytesOf x => onS (opF x F) fun s => s.length ≤ 140737488355328 ∧ C (.slice σ.next 0 s.length (.un 1)) (σ.new (.cells (bytesV s) false []))
  | .strOf x => onV (strOfV σ (opF x F)) fun v => C v σ
  | .iface t x => force (opF x F) fun v => C (.iface t v) σ
  | .mkfn f first cap => forceL first F fun a => forceL cap F fun b => C (.func f a b) σ
  | .mkmap => C (.map σ.next) (σ.new (.map []))
  | .mkslice zero _ bytes l c => onN (opF l F) fun l => onN (opF c F) fun c => (l ≤ c ∧ roomB bytes c = true) ∧ C (.slice σ.next 0 l (.is c)) (σ.new (.cells (repN c zero) true []))
  | .slstr x a b => onS (opF x F) fun s => optF F a fun a => optF F b fun b => (orD a 0 ≤ orD b s.length ∧ orD b s.length ≤ s.length) ∧ C (.str ((s.drop (orD a 0)).take (orD b s.length - orD a 0))) σ
  | .slsl esz x a b c => optF F a fun a => optF F b fun b => optF F c fun c => onV (sliceV esz (opF x F) a b c) fun v => C v σ
  | .slarr n esz x a b c => optF F a fun a => optF F b fun b => optF F c fun c => onV (sliceV esz (arrSl n (opF x F)) a b c) fun v => C v σ
  | .faddr off x => onP (opF x F) fun b o => C (.ptr b (o + off)) σ
  | .field off agg n x => onA (opF x F) fun cs => onV (partV agg off n cs) fun v => C v σ
  | .iaddr esz x i => match opF x F with | .slice b o len _ => onN (opF i F) fun k => k < len ∧ C (.ptr b (o + mulE k esz)) σ | _ => False
  | .iaddra n esz x i => onP (opF x F) fun b o => onN (opF i F) fun k => k < n ∧ C (.ptr b (o + mulE k esz)) σ
  | .idxs x i => onS (opF x F) fun s => onN (opF i F) fun k => ∃ c, s[k]? = some c ∧ C (.int .u8 (c : Int)) σ
  | .idxa len esz agg x i => onA (opF x F) fun cs => onN (opF i F) fun k => k < len ∧ onV (partV agg (k * esz) esz cs) fun v => C v σ
  | .extr x i => onT (opF x F) fun vs => onV (headV (dropN i vs)) fun v => C v σ
  | .call f args => forceL args F fun vs => wcall P lo f vs σ C
  | .callv f args => match opF f F with | .func g first cap => forceL args F fun vs => wcall P lo g (first ++ (vs ++ cap)) σ C | _ => False
  | .append esz bytes s x => onLen (opF x F) fun n => wfirst esz n σ (opF x F) fun news => ∃ v σ', appendV lo esz bytes (opF s F) n news σ = .v v σ' ∧ C v σ'
  | .appendf esz bytes s x => onLen (opF x F) fun n => wfirst esz n σ (opF x F) fun news => ∃ v σ', appendFV lo esz bytes (opF s F) n news σ = .v v σ' ∧ C v σ'
  | .len k x => wlen σ k (opF x F) fun v => C v σ
  | .minmax mx x y => onI (opF x F) fun k a => onI (opF y F) fun _ b => C (.int k (cond mx (max a b) (min a b))) σ
  | .lookup kk zero ok m k => ∃ r, lookupV kk σ (opF k F) (opF m F) = some r ∧ onV (foundV zero ok (some r)) fun v => C v σ
  | .mapset kk m k x => ∃ v σ', mapsetV kk lo σ (opF k F) (opF x F) (opF m F) = .v v σ' ∧ C v σ'
  | .copy esz d s => wval lo (.copy esz d s) F σ C
  | .clear zero x => wval lo (.clear zero x) F σ C
  | .panic _ => False
  | .bad => False

/-- An evaluator that knows no call. -/
def evNo : Ev := { call := fun _ _ _ _ => .no, again := fun _ _ _ _ => .no }
theorem evNo_ok : CallOk P evNo := fun _ _ _ _ _ _ h => by cases h

/-- One that knows one. -/
def evOne (f : Nat) (args : List V) (σ : St) (v : V) (σ' : St) (lo : Nat) : Ev :=
  { call := fun lo' f' a s => open Classical in if lo' = lo ∧ f' = f ∧ a = args ∧ s = σ then .v v σ' else .no, again := fun _ _ _ _ => .no }
theorem evOne_ok {f : Nat} {args : List V} {σ σ' : St} {v : V} {lo : Nat} (h : Does P lo f args σ v σ') : CallOk P (evOne f args σ v σ' lo) := by
  intro lo' f' a s s' v' hc
  unfold evOne at hc
  simp only at hc
  split at hc
  · rename_i h1
    obtain ⟨rfl, rfl, rfl, rfl⟩ := h1
    cases hc; exact h
  · cases hc
omit [Gl] in
theorem evOne_call (f : Nat) (args : List V) (σ σ' : St) (v : V) (lo : Nat) : (evOne f args σ v σ' lo).call lo f args σ = .v v σ' := by simp [evOne]

theorem wcall_ok {lo f : Nat} {args : List V} {σ : St} {C : V → St → Prop} (h : wcall P lo f args σ C) : ∃ ev v σ', CallOk P ev ∧ ev.call lo f args σ = .v v σ' ∧ C v σ' := by
  obtain ⟨v, σ', h1, h2⟩ := h
  exact ⟨_, v, σ', evOne_ok h1, evOne_call .., h2⟩

theorem opR_of {lo : Nat} {op : AOp} {e : E} {σ : St} {C : V → St → Prop} (h : ∃ v σ', evOp op evNo lo e σ = .v v σ' ∧ C v σ') : ∃ v σ', OpR P lo op e σ v σ' ∧ C v σ' := by
  obtain ⟨v, σ', h1, h2⟩ := h
  exact ⟨v, σ', ⟨evNo, evNo_ok, h1⟩, h2⟩

omit [Gl] in
theorem roomB_one {n : Nat} (h : n ≤ 140737488355328) : roomB 1 n = true := by
  unfold roomB
  rw [show Nat.mul n 1 = n from Nat.mul_one n, Nat.ble_eq_true_of_le h]; rfl

theorem wop_ok {lo : Nat} {op : AOp} {F : Fn} {σ : St} {C : V → St → Prop} (hs : ∀ n ∈ reads op, n < 512) (h : wop P lo op F σ C) : ∃ v σ', OpR P lo op (ofF F) σ v σ' ∧ C v σ' := by
  cases op with
  | mov x =>
    have hx := opd_ofF (x := x) (fun n hn => hs n (by simp [reads, hn])) F
    have h' : force (opF x F) (fun v => C v σ) := h
    rw [force_eq] at h'
    exact opR_of ⟨_, σ, by show R.v (opd x (ofF F)) σ = _; rw [hx], h'⟩
  | pick c a b =>
    have hc := opd_ofF (x := c) (fun n hn => hs n (by simp [reads, hn])) F
    have ha := opd_ofF (x := a) (fun n hn => hs n (by simp [reads, hn])) F
    have hb := opd_ofF (x := b) (fun n hn => hs n (by simp [reads, hn])) F
    have h' : onB (opF c F) (fun t => branch t fun t => force (cond t (opF a F) (opF b F)) fun v => C v σ) := h
    unfold onB at h'
    split at h'
    · rename_i t ht
      rw [branch_eq, force_eq] at h'
      refine opR_of ⟨_, σ, ?_, h'⟩
      show val (pickV (opd c (ofF F)) (opd a (ofF F)) (opd b (ofF F))) σ = _
      rw [hc, ha, hb, ht]
      rfl
    · exact h'.elim
  | alloc zero => exact opR_of ⟨_, _, rfl, h⟩
  | box n x =>
    have hx := opd_ofF (x := x) (fun n hn => hs n (by simp [reads, hn])) F
    have h' : force (opF x F) (fun v => cond (Nat.beq (lenN v.cells) n) (C (.ptr σ.next 0) (σ.new (.cells v.cells true []))) False) := h
    rw [force_eq] at h'
    obtain ⟨h1, h2⟩ := cond_and h'
    refine opR_of ⟨_, _, ?_, h2⟩
    show boxV n (opd x (ofF F)).cells σ = _
    rw [hx]; unfold boxV; rw [h1]; rfl
  | build zero parts =>
    have h' := forceP3_eq parts F _ (fun n hn => hs n (by simpa [reads] using hn)) h
    obtain ⟨cs, h1, h2⟩ := onL_some h'
    refine opR_of ⟨_, _, ?_, h2⟩
    show val (aggO (fillP (opds3 parts (ofF F)) zero)) σ = _
    rw [h1]; rfl
  | bslice zero len esz parts =>
    have h' := forceP2_eq parts esz F _ (fun n hn => hs n (by simpa [reads] using hn)) h
    obtain ⟨cs, h1, h2⟩ := onL_some h'
    refine opR_of ⟨_, _, ?_, h2⟩
    show madeSl len σ (fillP (opds2 parts esz (ofF F)) zero) = _
    rw [h1]; rfl
  | load agg n a =>
    have hx := opd_ofF (x := a) (fun n hn => hs n (by simp [reads, hn])) F
    have h' : onP (opF a F) (fun b o => wread σ b o n fun cs => onV (asV agg (some cs)) fun v => C v σ) := h
    unfold onP at h'
    split at h'
    · rename_i b o hb
      obtain ⟨cs, h1, h2⟩ := wread_ok h'
      obtain ⟨v, h3, h4⟩ := onV_some h2
      refine opR_of ⟨_, _, ?_, h4⟩
      show loadV agg n σ (opd a (ofF F)) = _
      rw [hx, hb]
      show val (asV agg (readN σ b o n)) σ = _
      rw [h1, h3]; rfl
    · exact h'.elim
  | store n a x =>
    have ha := opd_ofF (x := a) (fun n hn => hs n (by simp [reads, hn])) F
    have hx := opd_ofF (x := x) (fun n hn => hs n (by simp [reads, hn])) F
    have h' : onP (opF a F) (fun b o => force (opF x F) fun v => cond (Nat.beq (lenN v.cells) n) (wwrite lo σ b o v.cells fun σ' => C undefV σ') False) := h
    unfold onP at h'
    split at h'
    · rename_i b o hb
      rw [force_eq] at h'
      obtain ⟨h1, h2⟩ := cond_and h'
      obtain ⟨σ', h3, h4⟩ := wwrite_ok h2
      refine opR_of ⟨_, _, ?_, h4⟩
      show storeV n lo (opd x (ofF F)).cells σ (opd a (ofF F)) = _
      rw [ha, hx, hb]
      show cond (Nat.beq (lenN (opF x F).cells) n) (wrote undefV (writeN lo σ b o (opF x F).cells)) .no = _
      rw [h1, h3]; rfl
    · exact h'.elim
  | nilck x =>
    have hx := opd_ofF (x := x) (fun n hn => hs n (by simp [reads, hn])) F
    have h' : onV (nilckV (opF x F)) (fun v => C v σ) := h
    obtain ⟨v, h1, h2⟩ := onV_some h'
    refine opR_of ⟨_, _, ?_, h2⟩
    show val (nilckV (opd x (ofF F))) σ = _
    rw [hx, h1]; rfl
  | bin op x y =>
    have hx := opd_ofF (x := x) (fun n hn => hs n (by simp [reads, hn])) F
    have hy := opd_ofF (x := y) (fun n hn => hs n (by simp [reads, hn])) F
    have h' : wbin op (opF x F) (opF y F) (fun v => C v σ) := h
    obtain ⟨v, h1, h2⟩ := wbin_ok h'
    refine opR_of ⟨_, _, ?_, h2⟩
    show val (binV op (opd x (ofF F)) (opd y (ofF F))) σ = _
    rw [hx, hy, h1]; rfl
  | eq neg k x y =>
    have hx := opd_ofF (x := x) (fun n hn => hs n (by simp [reads, hn])) F
    have hy := opd_ofF (x := y) (fun n hn => hs n (by simp [reads, hn])) F
    have h' : (match eqN k (opF x F) (opF y F) with | some b => C (.bool (cond neg (!b) b)) σ | none => False) := h
    split at h'
    · rename_i b hb
      refine opR_of ⟨_, _, ?_, h'⟩
      show val (boolO neg (eqV k (opd x (ofF F)) (opd y (ofF F)))) σ = _
      rw [hx, hy, eqN_eq, hb]; rfl
    · exact h'.elim
  | un op x =>
    have hx := opd_ofF (x := x) (fun n hn => hs n (by simp [reads, hn])) F
    cases op with
    | not =>
      have h' : onB (opF x F) (fun t => C (.bool (!t)) σ) := h
      unfold onB at h'
      split at h'
      · rename_i t ht
        refine opR_of ⟨_, _, ?_, h'⟩
        show val (unV .not (opd x (ofF F))) σ = _
        rw [hx, ht]; rfl
      · exact h'.elim
    | neg =>
      have h' : onI (opF x F) (fun k n => wnum k (0 - n) fun v => C v σ) := h
      unfold onI at h'
      split at h'
      · rename_i k n hn
        refine opR_of ⟨_, _, ?_, wnum_ok h'⟩
        show val (unV .neg (opd x (ofF F))) σ = _
        rw [hx, hn]; rfl
      · exact h'.elim
    | _ => exact h.elim
  | toInt k x =>
    have hx := opd_ofF (x := x) (fun n hn => hs n (by simp [reads, hn])) F
    have h' : onI (opF x F) (fun _ n => wnum k n fun v => C v σ) := h
    unfold onI at h'
    split at h'
    · rename_i k n hn
      refine opR_of ⟨_, _, ?_, wnum_ok h'⟩
      show val (toIntV _ (opd x (ofF F))) σ = _
      rw [hx, hn]; rfl
    · exact h'.elim
  | strstr x =>
    have hx := opd_ofF (x := x) (fun n hn => hs n (by simp [reads, hn])) F
    have h' : onS (opF x F) (fun s => C (.str s) σ) := h
    unfold onS at h'
    split at h'
    · rename_i s hn
      refine opR_of ⟨_, _, ?_, h'⟩
      show val (strV (opd x (ofF F))) σ = _
      rw [hx, hn]; rfl
    · exact h'.elim
  | bytesOf x =>
    have hx := opd_ofF (x := x) (fun n hn => hs n (by simp [reads, hn])) F
    have h' : onS (opF x F) (fun s => s.length ≤ 140737488355328 ∧ C (.slice σ.next 0 s.length (.un 1)) (σ.new (.cells (bytesV s) false []))) := h
    unfold onS at h'
    split at h'
    · rename_i s hn
      refine opR_of ⟨_, _, ?_, h'.2⟩
      show bytesOfV σ (opd x (ofF F)) = _
      rw [hx, hn]
      show cond (roomB 1 (sizeS s)) (made (.slice σ.next 0 (sizeS s) (.un 1)) (.cells (bytesV s) false []) σ) .no = _
      rw [sizeS_eq, roomB_one h'.1]; rfl
    · exact h'.elim
  | strOf x =>
    have hx := opd_ofF (x := x) (fun n hn => hs n (by simp [reads, hn])) F
    have h' : onV (strOfV σ (opF x F)) (fun v => C v σ) := h
    obtain ⟨v, h1, h2⟩ := onV_some h'
    refine opR_of ⟨_, _, ?_, h2⟩
    show val (strOfV σ (opd x (ofF F))) σ = _
    rw [hx, h1]; rfl
  | iface t x =>
    have hx := opd_ofF (x := x) (fun n hn => hs n (by simp [reads, hn])) F
    have h' : force (opF x F) (fun v => C (.iface t v) σ) := h
    rw [force_eq] at h'
    exact opR_of ⟨_, σ, by show R.v (.iface t (opd x (ofF F))) σ = _; rw [hx], h'⟩
  | mkfn f first cap =>
    have ha := opds_ofF (l := first) (fun n hn => hs n (by simp [reads, hn])) F
    have hb := opds_ofF (l := cap) (fun n hn => hs n (by simp [reads, hn])) F
    have h' : forceL first F (fun a => forceL cap F fun b => C (.func f a b) σ) := h
    rw [forceL_eq, forceL_eq] at h'
    refine opR_of ⟨_, _, ?_, h'⟩
    show R.v (.func f (opds first (ofF F)) (opds cap (ofF F))) σ = _
    rw [ha, hb]
  | mkmap => exact opR_of ⟨_, _, rfl, h⟩
  | mkslice zero esz bytes l c =>
    have hl := opd_ofF (x := l) (fun n hn => hs n (by simp [reads, hn])) F
    have hc := opd_ofF (x := c) (fun n hn => hs n (by simp [reads, hn])) F
    have h' : onN (opF l F) (fun l => onN (opF c F) fun c => (l ≤ c ∧ roomB bytes c = true) ∧ C (.slice σ.next 0 l (.is c)) (σ.new (.cells (repN c zero) true []))) := h
    obtain ⟨a, h1, h2⟩ := onN_some h'
    obtain ⟨b, h3, ⟨h4, h5⟩, h6⟩ := onN_some h2
    refine opR_of ⟨_, _, ?_, h6⟩
    show Option.rec (motive := fun _ => R) .no (fun l => Option.rec (motive := fun _ => R) .no (fun c => mksliceV zero bytes l c σ) (natOf (opd c (ofF F)))) (natOf (opd l (ofF F))) = _
    rw [hl, hc, h1, h3]
    show cond (Nat.ble a b) (cond (roomB bytes b) (made (.slice σ.next 0 a (.is b)) (.cells (repN b zero) true []) σ) .no) .no = _
    rw [Nat.ble_eq_true_of_le h4, h5]; rfl
  | slstr x a b =>
    have hx := opd_ofF (x := x) (fun n hn => hs n (by simp [reads, hn])) F
    have h' : onS (opF x F) (fun s => optF F a fun a => optF F b fun b => (orD a 0 ≤ orD b s.length ∧ orD b s.length ≤ s.length) ∧ C (.str ((s.drop (orD a 0)).take (orD b s.length - orD a 0))) σ) := h
    unfold onS at h'
    split at h'
    · rename_i s hn
      obtain ⟨a', h1, h2⟩ := optF_ok (fun n hn => hs n (by simp [reads, hn])) h'
      obtain ⟨b', h3, ⟨h4, h5⟩, h6⟩ := optF_ok (fun n hn => hs n (by simp [reads, hn])) h2
      refine opR_of ⟨_, _, ?_, h6⟩
      show val (opt2 (subS (opd x (ofF F))) (natOpt (ofF F) a) (natOpt (ofF F) b)) σ = _
      rw [hx, hn, h1, h3]
      show val (cutS s (bounds2 (sizeS s) (orD a' 0) (orD b' (sizeS s)))) σ = _
      rw [sizeS_eq]
      unfold bounds2
      rw [Nat.ble_eq_true_of_le h5, Nat.ble_eq_true_of_le h4]
      show R.v (.str (takeB (orD b' s.length - orD a' 0) (dropB (orD a' 0) s))) σ = _
      rw [takeB_eq, dropB_eq]
    · exact h'.elim
  | slsl esz x a b c =>
    have hx := opd_ofF (x := x) (fun n hn => hs n (by simp [reads, hn])) F
    have h' : optF F a (fun a => optF F b fun b => optF F c fun c => onV (sliceV esz (opF x F) a b c) fun v => C v σ) := h
    obtain ⟨a', h1, h2⟩ := optF_ok (fun n hn => hs n (by simp [reads, hn])) h'
    obtain ⟨b', h3, h4⟩ := optF_ok (fun n hn => hs n (by simp [reads, hn])) h2
    obtain ⟨c', h5, h6⟩ := optF_ok (fun n hn => hs n (by simp [reads, hn])) h4
    obtain ⟨v, h7, h8⟩ := onV_some h6
    refine opR_of ⟨_, _, ?_, h8⟩
    show val (opt3 (sliceV esz (opd x (ofF F))) (natOpt (ofF F) a) (natOpt (ofF F) b) (natOpt (ofF F) c)) σ = _
    rw [hx, h1, h3, h5]
    show val (sliceV esz (opF x F) a' b' c') σ = _
    rw [h7]; rfl
  | slarr n esz x a b c =>
    have hx := opd_ofF (x := x) (fun n hn => hs n (by simp [reads, hn])) F
    have h' : optF F a (fun a => optF F b fun b => optF F c fun c => onV (sliceV esz (arrSl n (opF x F)) a b c) fun v => C v σ) := h
    obtain ⟨a', h1, h2⟩ := optF_ok (fun n hn => hs n (by simp [reads, hn])) h'
    obtain ⟨b', h3, h4⟩ := optF_ok (fun n hn => hs n (by simp [reads, hn])) h2
    obtain ⟨c', h5, h6⟩ := optF_ok (fun n hn => hs n (by simp [reads, hn])) h4
    obtain ⟨v, h7, h8⟩ := onV_some h6
    refine opR_of ⟨_, _, ?_, h8⟩
    show val (opt3 (sliceV esz (arrSl n (opd x (ofF F)))) (natOpt (ofF F) a) (natOpt (ofF F) b) (natOpt (ofF F) c)) σ = _
    rw [hx, h1, h3, h5]
    show val (sliceV esz (arrSl n (opF x F)) a' b' c') σ = _
    rw [h7]; rfl
  | faddr off x =>
    have hx := opd_ofF (x := x) (fun n hn => hs n (by simp [reads, hn])) F
    have h' : onP (opF x F) (fun b o => C (.ptr b (o + off)) σ) := h
    unfold onP at h'
    split at h'
    · rename_i b o hn
      refine opR_of ⟨_, _, ?_, h'⟩
      show val (faddrV off (opd x (ofF F))) σ = _
      rw [hx, hn]; rfl
    · exact h'.elim
  | field off agg n x =>
    have hx := opd_ofF (x := x) (fun n hn => hs n (by simp [reads, hn])) F
    have h' : onA (opF x F) (fun cs => onV (partV agg off n cs) fun v => C v σ) := h
    unfold onA at h'
    split at h'
    · rename_i cs hn
      obtain ⟨v, h1, h2⟩ := onV_some h'
      refine opR_of ⟨_, _, ?_, h2⟩
      show val (fieldV off agg n (opd x (ofF F))) σ = _
      rw [hx, hn]
      show val (partV agg off n cs) σ = _
      rw [h1]; rfl
    · exact h'.elim
  | iaddr esz x i =>
    have hx := opd_ofF (x := x) (fun n hn => hs n (by simp [reads, hn])) F
    have hi := opd_ofF (x := i) (fun n hn => hs n (by simp [reads, hn])) F
    have h' : (match opF x F with | .slice b o len _ => onN (opF i F) fun k => k < len ∧ C (.ptr b (o + mulE k esz)) σ | _ => False) := h
    split at h'
    · rename_i b o len cap hn
      obtain ⟨k, h1, h2, h3⟩ := onN_some h'
      rw [mulE_eq] at h3
      refine opR_of ⟨_, _, ?_, h3⟩
      show val (optN (iaddrV esz (opd x (ofF F))) (natOf (opd i (ofF F)))) σ = _
      rw [hx, hi, hn, h1]
      show val (cond (Nat.blt k len) (some (.ptr b (o + k * esz))) none) σ = _
      rw [show Nat.blt k _ = true from by rw [Nat.blt_eq]; exact h2]; rfl
    · exact h'.elim
  | iaddra n esz x i =>
    have hx := opd_ofF (x := x) (fun n hn => hs n (by simp [reads, hn])) F
    have hi := opd_ofF (x := i) (fun n hn => hs n (by simp [reads, hn])) F
    have h' : onP (opF x F) (fun b o => onN (opF i F) fun k => k < n ∧ C (.ptr b (o + mulE k esz)) σ) := h
    unfold onP at h'
    split at h'
    · rename_i b o hn
      obtain ⟨k, h1, h2, h3⟩ := onN_some h'
      rw [mulE_eq] at h3
      refine opR_of ⟨_, _, ?_, h3⟩
      show val (optN (iaddraV n esz (opd x (ofF F))) (natOf (opd i (ofF F)))) σ = _
      rw [hx, hi, hn, h1]
      show val (cond (Nat.blt k n) (some (.ptr b (o + k * esz))) none) σ = _
      rw [show Nat.blt k _ = true from by rw [Nat.blt_eq]; exact h2]; rfl
    · exact h'.elim
  | idxs x i =>
    have hx := opd_ofF (x := x) (fun n hn => hs n (by simp [reads, hn])) F
    have hi := opd_ofF (x := i) (fun n hn => hs n (by simp [reads, hn])) F
    have h' : onS (opF x F) (fun s => onN (opF i F) fun k => ∃ c, s[k]? = some c ∧ C (.int .u8 (c : Int)) σ) := h
    unfold onS at h'
    split at h'
    · rename_i s hn
      obtain ⟨k, h1, c, h2, h3⟩ := onN_some h'
      refine opR_of ⟨_, _, ?_, h3⟩
      show val (optN (idxsV (opd x (ofF F))) (natOf (opd i (ofF F)))) σ = _
      rw [hx, hi, hn, h1]
      show val (byteAt (dropB k s)) σ = _
      rw [dropB_eq]
      obtain ⟨hk, rfl⟩ := List.getElem?_eq_some_iff.1 h2
      rw [List.drop_eq_getElem_cons hk]; rfl
    · exact h'.elim
  | idxa len esz agg x i =>
    have hx := opd_ofF (x := x) (fun n hn => hs n (by simp [reads, hn])) F
    have hi := opd_ofF (x := i) (fun n hn => hs n (by simp [reads, hn])) F
    have h' : onA (opF x F) (fun cs => onN (opF i F) fun k => k < len ∧ onV (partV agg (k * esz) esz cs) fun v => C v σ) := h
    unfold onA at h'
    split at h'
    · rename_i cs hn
      obtain ⟨k, h1, h2, h3⟩ := onN_some h'
      obtain ⟨v, h4, h5⟩ := onV_some h3
      refine opR_of ⟨_, _, ?_, h5⟩
      show val (optN (idxaV len esz agg (opd x (ofF F))) (natOf (opd i (ofF F)))) σ = _
      rw [hx, hi, hn, h1]
      show val (cond (Nat.blt k len) (partV agg (k * esz) esz cs) none) σ = _
      rw [show Nat.blt k len = true from by rw [Nat.blt_eq]; exact h2, h4]; rfl
    · exact h'.elim
  | extr x i =>
    have hx := opd_ofF (x := x) (fun n hn => hs n (by simp [reads, hn])) F
    have h' : onT (opF x F) (fun vs => onV (headV (dropN i vs)) fun v => C v σ) := h
    unfold onT at h'
    split at h'
    · rename_i cs hn
      obtain ⟨v, h4, h5⟩ := onV_some h'
      refine opR_of ⟨_, _, ?_, h5⟩
      show val (extrV i (opd x (ofF F))) σ = _
      rw [hx, hn]
      show val (headV (dropN i cs)) σ = _
      rw [h4]; rfl
    · exact h'.elim
  | call f args =>
    have ha := opds_ofF (l := args) (fun n hn => hs n (by simpa [reads] using hn)) F
    have h' : forceL args F (fun vs => wcall P lo f vs σ C) := h
    rw [forceL_eq] at h'
    obtain ⟨ev, v, σ', h1, h2, h3⟩ := wcall_ok h'
    refine ⟨v, σ', ⟨ev, h1, ?_⟩, h3⟩
    show ev.call lo f (opds args (ofF F)) σ = _
    rw [ha]; exact h2
  | callv f args =>
    have hf := opd_ofF (x := f) (fun n hn => hs n (by simp [reads, hn])) F
    have ha := opds_ofF (l := args) (fun n hn => hs n (by simp [reads, hn])) F
    have h' : (match opF f F with | .func g first cap => forceL args F fun vs => wcall P lo g (first ++ (vs ++ cap)) σ C | _ => False) := h
    split at h'
    · rename_i g first cap hn
      rw [forceL_eq] at h'
      obtain ⟨ev, v, σ', h1, h2, h3⟩ := wcall_ok h'
      refine ⟨v, σ', ⟨ev, h1, ?_⟩, h3⟩
      show callVal (opds args (ofF F)) ev lo σ (opd f (ofF F)) = _
      rw [ha, hf, hn]
      show ev.call lo g (appN first (appN (opsF args F) cap)) σ = _
      rw [appN_eq, appN_eq]; exact h2
    · exact h'.elim
  | append esz bytes s x =>
    have hx := opd_ofF (x := x) (fun n hn => hs n (by simp [reads, hn])) F
    have hy := opd_ofF (x := s) (fun n hn => hs n (by simp [reads, hn])) F
    have h' : onLen (opF x F) (fun n => wfirst esz n σ (opF x F) fun news => ∃ v σ', appendV lo esz bytes (opF s F) n news σ = .v v σ' ∧ C v σ') := h
    obtain ⟨n, h1, h2⟩ := onLen_ok h'
    obtain ⟨news, h3, v, σ', h4, h5⟩ := wfirst_ok h2
    refine opR_of ⟨_, _, ?_, h5⟩
    show Option.rec (motive := fun _ => R) .no (fun n => appendO lo esz bytes (opd s (ofF F)) n σ (firstN esz n σ (opd x (ofF F)))) (lenV (opd x (ofF F))) = _
    rw [hx, hy, h1]
    show appendO lo esz bytes (opF s F) n σ (firstN esz n σ (opF x F)) = _
    rw [h3]; exact h4
  | appendf esz bytes s x =>
    have hx := opd_ofF (x := x) (fun n hn => hs n (by simp [reads, hn])) F
    have hy := opd_ofF (x := s) (fun n hn => hs n (by simp [reads, hn])) F
    have h' : onLen (opF x F) (fun n => wfirst esz n σ (opF x F) fun news => ∃ v σ', appendFV lo esz bytes (opF s F) n news σ = .v v σ' ∧ C v σ') := h
    obtain ⟨n, h1, h2⟩ := onLen_ok h'
    obtain ⟨news, h3, v, σ', h4, h5⟩ := wfirst_ok h2
    refine opR_of ⟨_, _, ?_, h5⟩
    show Option.rec (motive := fun _ => R) .no (fun n => appendOF lo esz bytes (opd s (ofF F)) n σ (firstN esz n σ (opd x (ofF F)))) (lenV (opd x (ofF F))) = _
    rw [hx, hy, h1]
    show appendOF lo esz bytes (opF s F) n σ (firstN esz n σ (opF x F)) = _
    rw [h3]; exact h4
  | len k x =>
    have hx := opd_ofF (x := x) (fun n hn => hs n (by simp [reads, hn])) F
    have h' : wlen σ k (opF x F) (fun v => C v σ) := h
    have key : ∃ v, intO (lenAny σ k (opF x F)) = some v ∧ C v σ := by
      match k, h' with
      | 0, h' =>
        have h2 : onS (opF x F) (fun s => C (.int .i64 (s.length : Int)) σ) := h'
        unfold onS at h2
        split at h2
        · rename_i s hn
          rw [hn]
          exact ⟨_, rfl, by rw [show sizeS s = s.length from sizeS_eq s]; exact h2⟩
        · exact h2.elim
      | 1, h' =>
        have h2 : (match opF x F with | .nilsl => C (.int .i64 0) σ | .slice _ _ n _ => C (.int .i64 (n : Int)) σ | _ => False) := h'
        split at h2
        · rename_i hn; rw [hn]; exact ⟨_, rfl, h2⟩
        · rename_i hn; rw [hn]; exact ⟨_, rfl, h2⟩
        · exact h2.elim
      | k + 2, h' =>
        have h2 : (match opF x F with | .nilmap => C (.int .i64 0) σ | .map r => ∃ es, σ.mem.get r = .map es ∧ C (.int .i64 (lenEs es : Int)) σ | _ => False) := h'
        split at h2
        · rename_i hn; rw [hn]; exact ⟨_, rfl, h2⟩
        · rename_i r hn
          obtain ⟨es, h3, h4⟩ := h2
          rw [hn]
          refine ⟨_, ?_, h4⟩
          show intO (lenM (mapOf (σ.mem.get r))) = _
          rw [h3]; rfl
        · exact h2.elim
    obtain ⟨v, h1, h2⟩ := key
    refine opR_of ⟨_, _, ?_, h2⟩
    show val (intO (lenAny σ k (opd x (ofF F)))) σ = _
    rw [hx, h1]; rfl
  | minmax mx x y =>
    have hx := opd_ofF (x := x) (fun n hn => hs n (by simp [reads, hn])) F
    have hy := opd_ofF (x := y) (fun n hn => hs n (by simp [reads, hn])) F
    have h' : onI (opF x F) (fun k a => onI (opF y F) fun _ b => C (.int k (cond mx (max a b) (min a b))) σ) := h
    unfold onI at h'
    split at h'
    · rename_i k a hn
      split at h'
      · rename_i k' b hn'
        refine opR_of ⟨_, _, ?_, h'⟩
        show val (minmaxV mx (opd x (ofF F)) (opd y (ofF F))) σ = _
        rw [hx, hy, hn, hn']
        show R.v (.int k (cond mx (cond (intLt a b) b a) (cond (intLt b a) b a))) σ = _
        congr 2
        rw [intLt_eq, intLt_eq]
        cases mx
        · by_cases e : b < a
          · simp [e]; omega
          · simp [e]; omega
        · by_cases e : a < b
          · simp [e]; omega
          · simp [e]; omega
      · exact h'.elim
    · exact h'.elim
  | lookup kk zero ok m k =>
    have hx := opd_ofF (x := m) (fun n hn => hs n (by simp [reads, hn])) F
    have hy := opd_ofF (x := k) (fun n hn => hs n (by simp [reads, hn])) F
    obtain ⟨r, h1, h2⟩ := h
    obtain ⟨v, h3, h4⟩ := onV_some h2
    refine opR_of ⟨_, _, ?_, h4⟩
    show val (foundV zero ok (lookupV kk σ (opd k (ofF F)) (opd m (ofF F)))) σ = _
    rw [hx, hy, h1, h3]; rfl
  | mapset kk m k x =>
    have hm := opd_ofF (x := m) (fun n hn => hs n (by simp [reads, hn])) F
    have hk := opd_ofF (x := k) (fun n hn => hs n (by simp [reads, hn])) F
    have hx := opd_ofF (x := x) (fun n hn => hs n (by simp [reads, hn])) F
    obtain ⟨v, σ', h1, h2⟩ := h
    refine opR_of ⟨_, _, ?_, h2⟩
    show mapsetV kk lo σ (opd k (ofF F)) (opd x (ofF F)) (opd m (ofF F)) = _
    rw [hm, hk, hx]; exact h1
  | copy esz d s => obtain ⟨v, σ', h1, h2⟩ := h; exact opR_of ⟨v, σ', h1 _, h2⟩
  | clear zero x => obtain ⟨v, σ', h1, h2⟩ := h; exact opR_of ⟨v, σ', h1 _, h2⟩
  | panic x => exact h.elim
  | bad => exact h.elim

end

end Go.Vm

/- Regions, code and functions as predicates; that they are right. -/
namespace Go.Vm
variable [Gl]

noncomputable section
variable {P : Program}

abbrev FP := Fn → St → Prop

def wguard (g : Option (Nat × Bool)) (F : Fn) (D : Bool → Fn → Prop) : Prop :=
  match g with
  | none => D true F
  | some (s, want) => match F s with
    | .bool t => branch t fun t => D (cond t want (!want)) (put F s (.bool t))
    | _ => D false F

def wo (P : Program) (lo : Nat) (l : List AOper) : Fn → St → FP → Prop :=
  List.rec (motive := fun _ => Fn → St → FP → Prop) (fun F σ K => K F σ)
    (fun o _ ih F σ K => wguard o.guard F fun w F => cond w (wop P lo o.op F σ fun v σ' => ih (putD o.dst v F) σ' K) (ih (putD o.dst undefV F) σ K)) l

def wd (P : Program) (lo : Nat) (l : List (Bool × AOper)) : Fn → St → FP → Prop :=
  List.rec (motive := fun _ => Fn → St → FP → Prop) (fun F σ K => K F σ)
    (fun o _ ih F σ K => wguard o.2.guard F fun w F => cond w (wop P (cond o.1 lo σ.next) o.2.op F σ fun v σ' => ih (putD o.2.dst v F) σ' K) (ih (putD o.2.dst undefV F) σ K)) l

def lt5 (n : Nat) : Bool := Nat.blt n 512
def smallG (g : Option (Nat × Bool)) : Bool := match g with | none => true | some (s, _) => lt5 s
def smallD (g : Option Nat) : Bool := match g with | none => true | some s => lt5 s
def smallO (o : AOper) : Bool := (reads o.op).all lt5 && smallD o.dst && smallG o.guard
def smallA (c : AC) : Bool :=
  AC.rec (motive := fun _ => Bool) true (fun ops => ops.all smallO) (fun ops => ops.all fun o => smallO o.2) (fun _ _ a b => a && b) (fun c _ _ a b => (rd c).all lt5 && a && b) (fun _ _ b => b) (fun _ b => b)
    (fun _ => true) (fun _ => true) true true c

/-- What holds behind code. -/
def after (rc : RC) (N : FP) (X : Nat → FP) (T : FP) : Prop :=
  match rc with
  | .norm e σ => ∃ F, e = ofF F ∧ N F σ
  | .exit i e σ => ∃ F, e = ofF F ∧ X i F σ
  | .ret e σ => ∃ F, e = ofF F ∧ T F σ
  | _ => False

/-- A loop leads there. -/
inductive WL (P : Program) (lo : Nat) (b : AC) (F : Fn) (σ : St) (N : FP) (X : Nat → FP) (T : FP) : Prop where
  | mk (h : smallA b = true → ∃ rc, CodeR P lo (.loop b) (ofF F) σ rc ∧ after rc N X T)

/-- What is known of a condition. -/
def known (c : Opd) (t : Bool) (F : Fn) : Fn := Opd.rec (motive := fun _ => Fn) (fun n => put F n (.bool t)) (fun _ => F) (fun _ => F) c
omit [Gl] in
theorem known_self {c : Opd} {t : Bool} {F : Fn} (h : opF c F = .bool t) : known c t F = F := by
  cases c with
  | t n =>
    have h' : F n = .bool t := h
    show put F n (.bool t) = F
    rw [← h']; exact put_self F n
  | c v => rfl
  | g n => rfl

def wc (P : Program) (lo : Nat) (c : AC) : Fn → St → FP → (Nat → FP) → FP → Prop :=
  AC.rec (motive := fun _ => Fn → St → FP → (Nat → FP) → FP → Prop)
    (fun F σ N _ _ => N F σ)
    (fun ops F σ N _ _ => wo P lo ops F σ N)
    (fun ops F σ N _ _ => wd P lo ops F σ N)
    (fun _ _ a b F σ N X T => a F σ (fun F σ => b F σ N X T) X T)
    (fun c _ _ a b F σ N X T => onB (opF c F) fun t => branch t fun t => cond t (a (known c t F) σ N X T) (b (known c t F) σ N X T))
    (fun id _ b F σ N X T => b F σ N (fun i F σ => cond (Nat.beq i id) (N F σ) (X i F σ)) T)
    (fun body _ F σ N X T => WL P lo body F σ N X T)
    (fun id F σ _ X _ => X id F σ)
    (fun _ F σ N _ _ => N F σ)
    (fun F σ _ _ T => T F σ)
    (fun _ _ _ _ _ => False) c

omit [Gl] in
theorem lt5_lt {n : Nat} (h : lt5 n = true) : n < 512 := by simpa [lt5, Nat.blt_eq] using h

omit [Gl] in
theorem putE_ofF {d : Option Nat} (h : smallD d = true) (v : V) (F : Fn) : putE d v (ofF F) = ofF (putD d v F) := by
  cases d with
  | none => rfl
  | some d => exact set_ofF F (lt5_lt h) v

omit [Gl] in
theorem wguard_ok {g : Option (Nat × Bool)} {F : Fn} {D : Bool → Fn → Prop} (hs : smallG g = true) (h : wguard g F D) : D (wanted g (ofF F)) F := by
  unfold wguard at h
  split at h
  · exact h
  · rename_i s want
    split at h
    · rename_i t ht
      rw [branch_eq] at h
      have h1 : put F s (.bool t) = F := by rw [← ht]; exact put_self F s
      rw [h1] at h
      show D (isB want ((ofF F).get s)) F
      rw [get_ofF F (lt5_lt hs), ht]
      exact h
    · rename_i hn
      show D (isB want ((ofF F).get s)) F
      rw [get_ofF F (lt5_lt hs)]
      have : isB want (F s) = false := by
        cases hv : F s <;> first | rfl | exact absurd hv (hn _)
      rw [this]; exact h

omit [Gl] in
theorem smallO_reads {o : AOper} (h : smallO o = true) : (∀ n ∈ reads o.op, n < 512) ∧ smallD o.dst = true ∧ smallG o.guard = true := by
  unfold smallO at h
  simp only [Bool.and_eq_true, List.all_eq_true] at h
  exact ⟨fun n hn => lt5_lt (h.1.1 n hn), h.1.2, h.2⟩

theorem wo_ok {lo : Nat} : ∀ {l : List AOper} {F : Fn} {σ : St} {K : FP}, l.all smallO = true → wo P lo l F σ K → ∃ F' σ', OpsR P lo l (ofF F) σ (ofF F') σ' ∧ K F' σ'
  | [], F, σ, K, _, h => ⟨F, σ, ⟨rfl, rfl⟩, h⟩
  | o :: l, F, σ, K, hs, h => by
    simp only [List.all_cons, Bool.and_eq_true] at hs
    obtain ⟨s1, s2, s3⟩ := smallO_reads hs.1
    have h' : wguard o.guard F (fun w F => cond w (wop P lo o.op F σ fun v σ' => wo P lo l (putD o.dst v F) σ' K) (wo P lo l (putD o.dst undefV F) σ K)) := h
    have h1 := wguard_ok s3 h'
    cases hw : wanted o.guard (ofF F) with
    | true =>
      rw [hw, cond_true] at h1
      obtain ⟨v, σ1, h2, h3⟩ := wop_ok s1 h1
      obtain ⟨F', σ', h4, h5⟩ := wo_ok hs.2 h3
      exact ⟨F', σ', .inl ⟨hw, v, σ1, h2, by rw [putE_ofF s2]; exact h4⟩, h5⟩
    | false =>
      rw [hw, _root_.cond_false] at h1
      obtain ⟨F', σ', h4, h5⟩ := wo_ok hs.2 h1
      exact ⟨F', σ', .inr ⟨hw, by rw [putE_ofF s2]; exact h4⟩, h5⟩

theorem wd_ok {lo : Nat} : ∀ {l : List (Bool × AOper)} {F : Fn} {σ : St} {K : FP}, l.all (fun o => smallO o.2) = true → wd P lo l F σ K → ∃ F' σ', DrawsR P lo l (ofF F) σ (ofF F') σ' ∧ K F' σ'
  | [], F, σ, K, _, h => ⟨F, σ, ⟨rfl, rfl⟩, h⟩
  | o :: l, F, σ, K, hs, h => by
    simp only [List.all_cons, Bool.and_eq_true] at hs
    obtain ⟨s1, s2, s3⟩ := smallO_reads hs.1
    have h' : wguard o.2.guard F (fun w F => cond w (wop P (cond o.1 lo σ.next) o.2.op F σ fun v σ' => wd P lo l (putD o.2.dst v F) σ' K) (wd P lo l (putD o.2.dst undefV F) σ K)) := h
    have h1 := wguard_ok s3 h'
    cases hw : wanted o.2.guard (ofF F) with
    | true =>
      rw [hw, cond_true] at h1
      obtain ⟨v, σ1, h2, h3⟩ := wop_ok s1 h1
      obtain ⟨F', σ', h4, h5⟩ := wd_ok hs.2 h3
      exact ⟨F', σ', .inl ⟨hw, v, σ1, h2, by rw [putE_ofF s2]; exact h4⟩, h5⟩
    | false =>
      rw [hw, _root_.cond_false] at h1
      obtain ⟨F', σ', h4, h5⟩ := wd_ok hs.2 h1
      exact ⟨F', σ', .inr ⟨hw, by rw [putE_ofF s2]; exact h4⟩, h5⟩

theorem wc_ok {lo : Nat} : ∀ {c : AC} {F : Fn} {σ : St} {N : FP} {X : Nat → FP} {T : FP}, smallA c = true → wc P lo c F σ N X T → ∃ rc, CodeR P lo c (ofF F) σ rc ∧ after rc N X T
  | .skip, F, σ, _, _, _, _, h => ⟨_, .skip, F, rfl, h⟩
  | .label _, F, σ, _, _, _, _, h => ⟨_, .label, F, rfl, h⟩
  | .exit _, F, σ, _, _, _, _, h => ⟨_, .exit, F, rfl, h⟩
  | .ret, F, σ, _, _, _, _, h => ⟨_, .ret, F, rfl, h⟩
  | .bad, _, _, _, _, _, _, h => h.elim
  | .reg ops, F, σ, N, X, T, hs, h => by
    obtain ⟨F', σ', h1, h2⟩ := wo_ok (l := ops) hs h
    exact ⟨_, .reg h1, F', rfl, h2⟩
  | .dreg ops, F, σ, N, X, T, hs, h => by
    obtain ⟨F', σ', h1, h2⟩ := wd_ok (l := ops) hs h
    exact ⟨_, .dreg h1, F', rfl, h2⟩
  | .seq a b, F, σ, N, X, T, hs, h => by
    have hs' : (smallA a && smallA b) = true := hs
    simp only [Bool.and_eq_true] at hs'
    obtain ⟨rc, h1, h2⟩ := wc_ok (c := a) (N := fun F σ => wc P lo b F σ N X T) (X := X) (T := T) hs'.1 h
    cases rc with
    | no => exact h2.elim
    | pan => exact h2.elim
    | norm e σ' =>
      obtain ⟨F', rfl, h3⟩ := h2
      obtain ⟨rc', h4, h5⟩ := wc_ok hs'.2 h3
      exact ⟨rc', .seqN h1 h4, h5⟩
    | exit i e σ' => exact ⟨_, .seqX h1, h2⟩
    | ret e σ' => exact ⟨_, .seqR h1, h2⟩
  | .cond c a b, F, σ, N, X, T, hs, h => by
    have hs' : ((rd c).all lt5 && smallA a && smallA b) = true := hs
    simp only [Bool.and_eq_true, List.all_eq_true] at hs'
    have h' : onB (opF c F) (fun t => branch t fun t => cond t (wc P lo a (known c t F) σ N X T) (wc P lo b (known c t F) σ N X T)) := h
    have hc := opd_ofF (x := c) (fun n hn => lt5_lt (hs'.1.1 n hn)) F
    unfold onB at h'
    split at h'
    · rename_i t ht
      rw [branch_eq, known_self ht] at h'
      rw [ht] at hc
      cases t with
      | true =>
        obtain ⟨rc, h1, h2⟩ := wc_ok hs'.1.2 h'
        exact ⟨rc, .condT hc h1, h2⟩
      | false =>
        obtain ⟨rc, h1, h2⟩ := wc_ok hs'.2 h'
        exact ⟨rc, .condF hc h1, h2⟩
    · exact h'.elim
  | .block id b, F, σ, N, X, T, hs, h => by
    obtain ⟨rc, h1, h2⟩ := wc_ok (c := b) (N := N) (X := fun i F σ => cond (Nat.beq i id) (N F σ) (X i F σ)) (T := T) hs h
    cases rc with
    | no => exact h2.elim
    | pan => exact h2.elim
    | norm e σ' => exact ⟨_, .blockN h1, h2⟩
    | ret e σ' => exact ⟨_, .blockR h1, h2⟩
    | exit i e σ' =>
      obtain ⟨F', rfl, h3⟩ := h2
      by_cases hi : i = id
      · subst hi
        rw [Nat.beq_refl] at h3
        exact ⟨_, .blockE h1, F', rfl, h3⟩
      · have h9 : Nat.beq i id = false := by
          cases h9 : Nat.beq i id with
          | false => rfl
          | true => exact absurd (Nat.eq_of_beq_eq_true h9) hi
        rw [h9] at h3
        exact ⟨_, .blockX hi h1, F', rfl, h3⟩
  | .loop b, F, σ, N, X, T, hs, h => by
    have h' : WL P lo b F σ N X T := h
    exact h'.1 hs

/-- One round of a loop. -/
theorem WL.step {lo : Nat} {b : AC} {F : Fn} {σ : St} {N : FP} {X : Nat → FP} {T : FP} (h : wc P lo b F σ (fun F σ => WL P lo b F σ N X T) X T) : WL P lo b F σ N X T := by
  refine ⟨fun hs => ?_⟩
  obtain ⟨rc, h1, h2⟩ := wc_ok hs h
  cases rc with
  | no => exact h2.elim
  | pan => exact h2.elim
  | norm e σ' =>
    obtain ⟨F', rfl, h3⟩ := h2
    obtain ⟨rc', h4, h5⟩ := h3.1 hs
    exact ⟨rc', .loopN h1 h4, h5⟩
  | exit i e σ' => exact ⟨_, .loopX h1, h2⟩
  | ret e σ' => exact ⟨_, .loopR h1, h2⟩

omit [Gl] in
theorem after_mono {rc : RC} {N N' : FP} {X X' : Nat → FP} {T T' : FP} (hN : ∀ F σ, N F σ → N' F σ) (hX : ∀ i F σ, X i F σ → X' i F σ) (hT : ∀ F σ, T F σ → T' F σ) (h : after rc N X T) : after rc N' X' T' := by
  cases rc with
  | no => exact h.elim
  | pan => exact h.elim
  | norm e σ' => obtain ⟨F, h1, h2⟩ := h; exact ⟨F, h1, hN _ _ h2⟩
  | exit i e σ' => obtain ⟨F, h1, h2⟩ := h; exact ⟨F, h1, hX _ _ _ h2⟩
  | ret e σ' => obtain ⟨F, h1, h2⟩ := h; exact ⟨F, h1, hT _ _ h2⟩

theorem WL.mono {lo : Nat} {b : AC} {F : Fn} {σ : St} {N N' : FP} {X X' : Nat → FP} {T T' : FP} (h : WL P lo b F σ N X T) (hN : ∀ F σ, N F σ → N' F σ) (hX : ∀ i F σ, X i F σ → X' i F σ) (hT : ∀ F σ, T F σ → T' F σ) : WL P lo b F σ N' X' T' :=
  ⟨fun hs => let ⟨rc, h1, h2⟩ := h.1 hs; ⟨rc, h1, after_mono hN hX hT h2⟩⟩

/-- A loop by what is left to do. -/
theorem WL.run {lo : Nat} {b : AC} {N : FP} {X : Nat → FP} {T : FP} (I : Nat → FP) (hI : ∀ n F σ, I n F σ → wc P lo b F σ (fun F σ => ∃ m, m < n ∧ I m F σ) X T) : ∀ n F σ, I n F σ → WL P lo b F σ N X T := by
  intro n
  induction n using Nat.strongRecOn with
  | _ n ih =>
    intro F σ h
    refine ⟨fun hs => ?_⟩
    obtain ⟨rc, h1, h2⟩ := wc_ok hs (hI n F σ h)
    cases rc with
    | no => exact h2.elim
    | pan => exact h2.elim
    | norm e σ' =>
      obtain ⟨F', rfl, m, hm, h3⟩ := h2
      obtain ⟨rc', h4, h5⟩ := (ih m hm F' σ' h3).1 hs
      exact ⟨rc', .loopN h1 h4, h5⟩
    | exit i e σ' => exact ⟨_, .loopX h1, h2⟩
    | ret e σ' => exact ⟨_, .loopR h1, h2⟩

/-- Code with a halt: what holds behind it. -/
theorem wc_to {lo : Nat} {c : AC} {F : Fn} {σ : St} {N N' : FP} {X : Nat → FP} {T : FP} (h : wc P lo c F σ N' X T) (hN : ∀ F σ, N' F σ → N F σ) (hs : smallA c = true) : ∃ rc, CodeR P lo c (ofF F) σ rc ∧ after rc N X T := by
  obtain ⟨rc, h1, h2⟩ := wc_ok hs h
  exact ⟨rc, h1, after_mono hN (fun _ _ _ h => h) (fun _ _ h => h) h2⟩

def wres1 (r : ARes) (F : Fn) (σ : St) (C : V → Prop) : Prop :=
  match r with
  | .t n => force (F n) C
  | .cell a agg n => onP (F a) fun b o => wread σ b o n fun cs => onV (asV agg (some cs)) C
def wres (res : List ARes) : Fn → St → (List V → Prop) → Prop :=
  List.rec (motive := fun _ => Fn → St → (List V → Prop) → Prop) (fun _ _ C => C []) (fun r _ ih F σ C => wres1 r F σ fun v => ih F σ fun vs => C (v :: vs)) res
def smallR (r : ARes) : Bool := match r with | .t n => lt5 n | .cell n _ _ => lt5 n

omit [Gl] in
theorem wres1_ok {r : ARes} {F : Fn} {σ : St} {C : V → Prop} (hs : smallR r = true) (h : wres1 r F σ C) : ∃ v, result r (ofF F) σ = some v ∧ C v := by
  cases r with
  | t n =>
    have h' : force (F n) C := h
    rw [force_eq] at h'
    exact ⟨F n, by show some ((ofF F).get n) = _; rw [get_ofF F (lt5_lt hs)], h'⟩
  | cell a agg n =>
    have h' : onP (F a) (fun b o => wread σ b o n fun cs => onV (asV agg (some cs)) C) := h
    unfold onP at h'
    split at h'
    · rename_i b o hb
      obtain ⟨cs, h1, h2⟩ := wread_ok h'
      obtain ⟨v, h3, h4⟩ := onV_some h2
      refine ⟨v, ?_, h4⟩
      show cellR agg n σ ((ofF F).get a) = _
      rw [get_ofF F (lt5_lt hs), hb]
      show asV agg (readN σ b o n) = _
      rw [h1, h3]
    · exact h'.elim

omit [Gl] in
theorem wres_ok : ∀ {res : List ARes} {F : Fn} {σ : St} {C : List V → Prop}, res.all smallR = true → wres res F σ C → ∃ vs, resultsL res (ofF F) σ = some vs ∧ C vs
  | [], _, _, _, _, h => ⟨[], rfl, h⟩
  | r :: res, F, σ, C, hs, h => by
    simp only [List.all_cons, Bool.and_eq_true] at hs
    have h' : wres1 r F σ (fun v => wres res F σ fun vs => C (v :: vs)) := h
    obtain ⟨v, h1, h2⟩ := wres1_ok hs.1 h'
    obtain ⟨vs, h3, h4⟩ := wres_ok hs.2 h2
    refine ⟨v :: vs, ?_, h4⟩
    show consR (result r (ofF F) σ) (resultsL res (ofF F) σ) = _
    rw [h1, h3]; rfl

def parF (l : List V) : Nat → Fn → Fn := List.rec (motive := fun _ => Nat → Fn → Fn) (fun _ F => F) (fun v _ ih i F => ih (Nat.succ i) (put F i v)) l
omit [Gl] in
theorem params_ofF : ∀ (l : List V) (i : Nat) (F : Fn), i + l.length ≤ 512 → params l i (ofF F) = ofF (parF l i F)
  | [], _, _, _ => rfl
  | v :: l, i, F, h => by
    simp only [List.length_cons] at h
    show params l (i + 1) ((ofF F).set i v) = ofF (parF l (i + 1) (put F i v))
    rw [set_ofF F (by omega), params_ofF l (i + 1) _ (by omega)]

/-- A function called. -/
def wf (P : Program) (lo : Nat) (af : AFunc) (args : List V) (σ : St) (C : V → St → Prop) : Prop :=
  wc P lo af.body (parF args 0 fun _ => undefV) σ (fun F σ => wres af.res F σ fun vs => C (tupV vs) σ) (fun _ _ _ => False) (fun F σ => wres af.res F σ fun vs => C (tupV vs) σ)

def smallF (af : AFunc) (n : Nat) : Bool := smallA af.body && af.res.all smallR && Nat.ble n af.nt && Nat.ble af.nt 512

theorem does_wf (hdr : DrawOk P) {f : Nat} {af : AFunc} (hc : cFunc P f = some af) {args : List V} (hs : smallF af args.length = true) {lo : Nat} {σ : St} {C : V → St → Prop} (h : wf P lo af args σ C) :
    ∃ v σ', Does P lo f args σ v σ' ∧ C v σ' := by
  unfold smallF at hs
  simp only [Bool.and_eq_true] at hs
  obtain ⟨⟨⟨s1, s2⟩, s3⟩, s4⟩ := hs
  have s3' := Nat.le_of_ble_eq_true s3
  have s4' := Nat.le_of_ble_eq_true s4
  obtain ⟨rc, h1, h2⟩ := wc_ok s1 h
  rw [← params_ofF args 0 _ (by omega)] at h1
  cases rc with
  | no => exact h2.elim
  | pan => exact h2.elim
  | exit i e σ' => obtain ⟨F, _, h3⟩ := h2; exact h3.elim
  | norm e σ' =>
    obtain ⟨F, rfl, h3⟩ := h2
    obtain ⟨vs, h4, h5⟩ := wres_ok s2 h3
    refine ⟨tupV vs, σ', does_of hdr hc ⟨by rw [lenN_eq]; exact s3', _, h1, ?_⟩, h5⟩
    show val (tupO (resultsL af.res (ofF F) σ')) σ' = _
    rw [h4]; rfl
  | ret e σ' =>
    obtain ⟨F, rfl, h3⟩ := h2
    obtain ⟨vs, h4, h5⟩ := wres_ok s2 h3
    refine ⟨tupV vs, σ', does_of hdr hc ⟨by rw [lenN_eq]; exact s3', _, h1, ?_⟩, h5⟩
    show val (tupO (resultsL af.res (ofF F) σ')) σ' = _
    rw [h4]; rfl

end

end Go.Vm

/- To walk by: small laws. -/
namespace Go.Vm
variable [Gl]

noncomputable section
variable {P : Program}

omit [Gl] in
theorem boolV {a b : Bool} (h : a = true ↔ b = true) : V.bool a = V.bool b := congrArg V.bool (Bool.eq_iff_iff.2 h)

omit [Gl] in
theorem put_at {F : Fn} {k : Nat} {v : V} (h : F k = v) : put F k v = F := by rw [← h]; exact put_self F k
omit [Gl] in
theorem fix1 {F : Fn} {a : Nat} {x : V} (h : F a = x) : F = put F a x := (put_at h).symm
omit [Gl] in
theorem fix2 {F : Fn} {a b : Nat} {x y : V} (h : F a = x) (h2 : F b = y) : F = put (put F a x) b y := by rw [put_at h, put_at h2]
omit [Gl] in
theorem fix3 {F : Fn} {a b c : Nat} {x y z : V} (h : F a = x) (h2 : F b = y) (h3 : F c = z) : F = put (put (put F a x) b y) c z := by rw [put_at h, put_at h2, put_at h3]
omit [Gl] in
theorem fix4 {F : Fn} {a b c d : Nat} {x y z u : V} (h : F a = x) (h2 : F b = y) (h3 : F c = z) (h4 : F d = u) : F = put (put (put (put F a x) b y) c z) d u := by
  rw [put_at h, put_at h2, put_at h3, put_at h4]
omit [Gl] in
theorem fix5 {F : Fn} {a b c d e : Nat} {x y z u v : V} (h : F a = x) (h2 : F b = y) (h3 : F c = z) (h4 : F d = u) (h5 : F e = v) : F = put (put (put (put (put F a x) b y) c z) d u) e v := by
  rw [put_at h, put_at h2, put_at h3, put_at h4, put_at h5]
omit [Gl] in
theorem fix6 {F : Fn} {a b c d e f : Nat} {x y z u v w : V} (h : F a = x) (h2 : F b = y) (h3 : F c = z) (h4 : F d = u) (h5 : F e = v) (h6 : F f = w) :
    F = put (put (put (put (put (put F a x) b y) c z) d u) e v) f w := by
  rw [put_at h, put_at h2, put_at h3, put_at h4, put_at h5, put_at h6]
omit [Gl] in
theorem fix7 {F : Fn} {a b c d e f g : Nat} {x y z u v w p : V} (h : F a = x) (h2 : F b = y) (h3 : F c = z) (h4 : F d = u) (h5 : F e = v) (h6 : F f = w) (h7 : F g = p) :
    F = put (put (put (put (put (put (put F a x) b y) c z) d u) e v) f w) g p := by
  rw [put_at h, put_at h2, put_at h3, put_at h4, put_at h5, put_at h6, put_at h7]

omit [Gl] in
theorem wread_of {σ : St} {b o n : Nat} {C : List V → Prop} {l : List V} {rw' : Bool} {anc : List Nat} (h : σ.mem.get b = .cells l rw' anc) (h2 : onL (takeN n (dropN o l)) C) : wread σ b o n C := ⟨l, rw', anc, h, h2⟩

omit [Gl] in
theorem take1 {l : List V} {o : Nat} {x : V} (h : l[o]? = some x) : takeN 1 (dropN o l) = some [x] := by
  rw [dropN_eq]
  obtain ⟨hk, rfl⟩ := List.getElem?_eq_some_iff.1 h
  rw [List.drop_eq_getElem_cons hk]; rfl

omit [Gl] in
theorem wread_one {σ : St} {b o : Nat} {C : List V → Prop} {l : List V} {rw' : Bool} {anc : List Nat} {x : V} (h : σ.mem.get b = .cells l rw' anc) (hx : l[o]? = some x) (h2 : C [x]) : wread σ b o 1 C :=
  ⟨l, rw', anc, h, by rw [take1 hx]; exact h2⟩

omit [Gl] in
theorem wread_row {σ : St} {b o n : Nat} {C : List V → Prop} {l r : List V} {rw' : Bool} {anc : List Nat} (h : σ.mem.get b = .cells l rw' anc) (hx : (l.drop o).take n = r) (hn : r.length = n) (h2 : C r) : wread σ b o n C := by
  refine ⟨l, rw', anc, h, ?_⟩
  rw [dropN_eq, takeN_ok _ _ (by have := congrArg List.length hx; rw [List.length_take] at this; omega), hx]
  exact h2

omit [Gl] in
theorem wwrite_of {lo : Nat} {σ : St} {b o : Nat} {v : V} {vs : List V} {C : St → Prop} {l : List V} {anc : List Nat} (h : σ.mem.get b = .cells l true anc) (hlo : lo ≤ b) (ha : ∀ a ∈ anc, lo ≤ a)
    (h2 : cond (cellsOk (v :: vs)) (onL (over l o (v :: vs)) fun l' => C { mem := (kill anc σ.mem).set b (.cells l' true []), next := σ.next }) False) : wwrite lo σ b o (v :: vs) C := ⟨l, anc, h, ⟨hlo, ha⟩, h2⟩

/-- A store with a block changed. -/
def St.put (σ : St) (b : Nat) (k : Blk) : St := { mem := σ.mem.set b k, next := σ.next }

omit [Gl] in
theorem St.put_get (σ : St) (b : Nat) (k : Blk) : (σ.put b k).mem.get b = k := M.get_set _ _ _
omit [Gl] in
theorem St.put_get_ne (σ : St) {b i : Nat} (k : Blk) (h : i ≠ b) : (σ.put b k).mem.get i = σ.mem.get i := M.get_set_ne _ _ h
omit [Gl] in
theorem St.put_next (σ : St) (b : Nat) (k : Blk) : (σ.put b k).next = σ.next := rfl

omit [Gl] in
theorem St.new_old {σ : St} {b : Blk} {i : Nat} {k : Blk} (h : σ.mem.get i = k) (hi : i < σ.next) : (σ.new b).mem.get i = k := by
  rw [St.new_get_ne σ b (by omega)]; exact h
omit [Gl] in
theorem St.put_old {σ : St} {b : Nat} {k k' : Blk} {i : Nat} (h : σ.mem.get i = k) (hi : i ≠ b) : (σ.put b k').mem.get i = k := by
  rw [St.put_get_ne σ k' hi]; exact h

omit [Gl] in
theorem St.new_get' (σ : St) (b : Blk) (i : Nat) : (σ.new b).mem.get i = if i = σ.next then b else σ.mem.get i := by
  split
  · rename_i h; subst h; exact St.new_get _ _
  · exact St.new_get_ne _ _ (by assumption)
omit [Gl] in
theorem St.put_get' (σ : St) (b : Nat) (k : Blk) (i : Nat) : (σ.put b k).mem.get i = if i = b then k else σ.mem.get i := by
  split
  · rename_i h; subst h; exact St.put_get _ _ _
  · exact St.put_get_ne _ _ (by assumption)

omit [Gl] in
theorem Keeps.put {σ0 σ : St} (h : Keeps σ0 σ) {b : Nat} (hb : σ0.next ≤ b) (k : Blk) : Keeps σ0 (σ.put b k) :=
  ⟨h.next, fun id hid => by rw [St.put_get_ne σ k (by omega)]; exact h.get id hid⟩
omit [Gl] in
theorem Keeps.add {σ0 σ : St} (h : Keeps σ0 σ) (k : Blk) : Keeps σ0 (σ.new k) := h.trans (Keeps.new σ k)
omit [Gl] in
theorem Keeps.old {σ σ' : St} (h : Keeps σ σ') {b : Nat} {k : Blk} (hb : σ.mem.get b = k) (hlt : b < σ.next) : σ'.mem.get b = k := by rw [h.get b hlt]; exact hb

omit [Gl] in
/-- One cell is stored in a block without elder ones. -/
theorem wwrite_one {lo : Nat} {σ : St} {b o : Nat} {v : V} {C : St → Prop} {l : List V} (h : σ.mem.get b = .cells l true []) (hlo : lo ≤ b) (hv : isCell v = true) (ho : o < l.length) (h2 : C (σ.put b (.cells (l.set o v) true []))) :
    wwrite lo σ b o [v] C := by
  refine wwrite_of h hlo (fun a ha => by cases ha) ?_
  have h3 : cellsOk [v] = true := by show cond (isCell v) true false = true; rw [hv]; rfl
  rw [h3]
  show onL (over l o [v]) _
  rw [over_ok l o [v] (by simp; omega)]
  show C _
  have : l.take o ++ [v] ++ l.drop (o + [v].length) = l.set o v := by
    rw [List.set_eq_take_append_cons_drop, if_pos ho]; simp
  rw [this]
  exact h2

omit [Gl] in
/-- A whole block is stored. -/
theorem wwrite_all {lo : Nat} {σ : St} {b : Nat} {v : V} {vs : List V} {C : St → Prop} {l : List V} (h : σ.mem.get b = .cells l true []) (hlo : lo ≤ b) (hv : cellsOk (v :: vs) = true) (hl : l.length = vs.length + 1) (h2 : C (σ.put b (.cells (v :: vs) true []))) :
    wwrite lo σ b 0 (v :: vs) C := by
  refine wwrite_of h hlo (fun a ha => by cases ha) ?_
  rw [hv]
  show onL (over l 0 (v :: vs)) _
  rw [over_ok l 0 (v :: vs) (by simp; omega)]
  have : l.take 0 ++ (v :: vs) ++ l.drop (0 + (v :: vs).length) = v :: vs := by
    rw [List.drop_of_length_le (by simp; omega)]; simp
  rw [this]
  exact h2

theorem wcall_of {lo f : Nat} {args : List V} {σ σ' : St} {v : V} {C : V → St → Prop} (h : Does P lo f args σ v σ') (h2 : C v σ') : wcall P lo f args σ C := ⟨v, σ', h, h2⟩
theorem wcall_ex {lo f : Nat} {args : List V} {σ : St} {Q C : V → St → Prop} (h : ∃ v σ', Does P lo f args σ v σ' ∧ Q v σ') (h2 : ∀ v σ', Q v σ' → C v σ') : wcall P lo f args σ C := by
  obtain ⟨v, σ', h1, h3⟩ := h
  exact ⟨v, σ', h1, h2 v σ' h3⟩

/-- A function that makes nothing that lasts. -/
theorem does_pure (hdr : DrawOk P) {f : Nat} {af : AFunc} (hc : cFunc P f = some af) {args : List V} (hs : smallF af args.length = true) {lo : Nat} {σ : St} {v : V} (hv : noRef v = true)
    (h : wf P lo af args σ fun v' s' => v' = v ∧ Keeps σ s') : Does P lo f args σ v σ := by
  obtain ⟨v', s', h1, rfl, h2⟩ := does_wf hdr hc hs h
  exact h1.forget h2 hv

/-- A row of values of one cell each. -/
def Elems (σ : St) (v : V) (xs : List V) : Prop :=
  (v = .nilsl ∧ xs = []) ∨ ∃ b o cap l rw' anc, v = .slice b o xs.length cap ∧ b < σ.next ∧ σ.mem.get b = .cells l rw' anc ∧ ∀ (i : Nat) (x : V), xs[i]? = some x → l[o + i]? = some x

omit [Gl] in
theorem Elems.keeps {σ σ' : St} {v : V} {xs : List V} (h : Elems σ v xs) (hk : Keeps σ σ') : Elems σ' v xs := by
  rcases h with h | ⟨b, o, cap, l, rw', anc, h1, h2, h3, h4⟩
  · exact .inl h
  · exact .inr ⟨b, o, cap, l, rw', anc, h1, Nat.lt_of_lt_of_le h2 hk.next, hk.old h3 h2, h4⟩

omit [Gl] in
theorem Elems.new {σ : St} {xs : List V} {n : Nat} (hn : n = xs.length) (c : Cap) (rw' : Bool) (anc : List Nat) : Elems (σ.new (.cells xs rw' anc)) (.slice σ.next 0 n c) xs := by
  subst hn
  exact .inr ⟨σ.next, 0, c, xs, rw', anc, rfl, Nat.lt_succ_self _, St.new_get _ _, fun i x hx => by rw [Nat.zero_add]; exact hx⟩

end


end Go.Vm

/- The library's contracts as what calls do. -/
namespace Go.Vm
variable [Gl]
open Go.RowKit

section
variable {P : Program}

omit [Gl] in
theorem Ext.below {lo : Nat} {m : Mp} {σ : St} {w w' : World} (h : Below w.heap.size w w') : Ext lo m σ w m σ w' where
  le := Le.refl m
  newd := fun _ _ h => h
  next := Nat.le_refl _
  abs := fun _ _ _ => rfl
  size := h.size
  frame := fun cb hcb _ => h.block cb hcb
  own := fun _ _ h => h
  fresh := fun _ _ h1 h2 => (none_some h2 h1).elim
  rows := fun cb c e hc => ⟨c, by rw [h.block cb (Array.getElem?_eq_some_iff.1 hc).1]; exact hc, rfl⟩
  env := ⟨h.tape, h.os, h.output⟩

/-- A call that only makes what nobody sees. -/
theorem Does.of_below {lo f : Nat} {args : List V} {σ : St} {v : V} (hb : ∃ fn c, P.funcs[f]? = some fn ∧ fn.body = some c ∧ fn.name ≠ "runtime.NumGoroutine")
    (h : ∀ (m : Mp) (w : World) (cargs : Array Value), Rel lo m σ w → VRs m args cargs.toList → Calls P f cargs w fun e w' => ∃ cv, e = .returned cv ∧ VR m v cv ∧ Below w.heap.size w w') : Does P lo f args σ v σ := by
  intro m w cargs hR ha
  refine ⟨hb, (h m w cargs hR ha).mono ?_⟩
  rintro e w' ⟨cv, rfl, h1, h2⟩
  exact ⟨cv, m, rfl, h1, hR.grown h2.block h2.size, Ext.below h2⟩

/-- A block of which nothing is known is given a number. -/
theorem Rel.hint {lo : Nat} {m : Mp} {σ : St} {w w' : World} (hR : Rel lo m σ w) (h : Below w.heap.size w w') {N : Nat} (h1 : w.heap.size ≤ N) (h2 : N < w'.heap.size) :
    Rel lo (upd m σ.next ⟨N, 0, 0⟩) (σ.new .none) w' ∧ Ext lo m σ w (upd m σ.next ⟨N, 0, 0⟩) (σ.new .none) w' := by
  have hg := hR.grown h.block h.size
  have hfr := hR.fresh
  have hle : Le m (upd m σ.next ⟨N, 0, 0⟩) := Le.upd hfr
  have hget : ∀ id, id < σ.next → (σ.new .none).mem.get id = σ.mem.get id := fun id hid => σ.new_get_ne _ (by omega)
  have old : ∀ {id : Nat} {i : Info}, upd m σ.next ⟨N, 0, 0⟩ id = some i → (σ.new .none).mem.get id ≠ .none → m id = some i ∧ id < σ.next := by
    intro id i hi hn
    rcases upd_inv hi with ⟨rfl, _⟩ | ⟨_, hi⟩
    · exact absurd (σ.new_get .none) hn
    · exact ⟨hi, (hR.dom id i hi).1⟩
  refine ⟨⟨hR.pins.mono hle, ?_, ?_, ?_, ?_, ?_⟩, ⟨hle, ?_, by rw [St.new_next]; omega, fun id hid _ => hget id hid, h.size, fun cb hcb _ => h.block cb hcb, ?_, ?_, fun cb c e hc => ⟨c, by rw [h.block cb (Array.getElem?_eq_some_iff.1 hc).1]; exact hc, rfl⟩, h.tape, h.os, h.output⟩⟩
  · intro id i hi
    rw [St.new_next]
    rcases upd_inv hi with ⟨rfl, rfl⟩ | ⟨_, hi⟩
    · exact ⟨by omega, h2⟩
    · have := hg.dom id i hi; exact ⟨by omega, this.2⟩
  · intro id i cs rw' anc hi hc j v hj
    obtain ⟨q1, q2⟩ := old hi (by rw [hc]; simp)
    rw [hget id q2] at hc
    obtain ⟨cv, q3, q4⟩ := hg.cell id i cs rw' anc q1 hc j v hj
    exact ⟨cv, q3, VR.mono hle _ _ q4⟩
  · intro id i es hi hc
    obtain ⟨q1, q2⟩ := old hi (by rw [hc]; simp)
    rw [hget id q2] at hc
    obtain ⟨ces, cl, q3, q4⟩ := hg.mp id i es q1 hc
    exact ⟨ces, cl, q3, q4.mono hle⟩
  · intro id i cs anc hl hi hc
    obtain ⟨q1, q2⟩ := old hi (by rw [hc]; simp)
    rw [hget id q2] at hc
    have ow := hg.own id i cs anc hl q1 hc
    refine ⟨ow.fit, ow.row, ?_, fun a ha => let ⟨h1, j, h2⟩ := ow.anc a ha; ⟨h1, j, hle _ _ h2⟩⟩
    intro id' i' hi' hb hne
    obtain ⟨q3, q4⟩ := old hi' hne
    rw [hget id' q4] at hne ⊢
    exact ow.only id' i' q3 hb hne
  · intro id i es hl hi hc id' i' hi' hb hne
    obtain ⟨q1, q2⟩ := old hi (by rw [hc]; simp)
    rw [hget id q2] at hc
    obtain ⟨q3, q4⟩ := old hi' hne
    rw [hget id' q4] at hne
    exact hg.ownm id i es hl q1 hc id' i' q3 hb hne
  · intro id hid hmn
    rw [upd_ne (by omega)]; exact hmn
  · rintro cb hcb ⟨id, i, hl, hi, hb, hor⟩
    have hne : (σ.new .none).mem.get id ≠ .none := by rcases hor with ⟨cs, anc, hg⟩ | ⟨es, hg⟩ <;> (rw [hg]; simp)
    obtain ⟨q1, q2⟩ := old hi hne
    rw [hget id q2] at hor
    exact ⟨id, i, hl, q1, hb, hor⟩
  · intro id i hi hn
    rcases upd_inv hi with ⟨_, rfl⟩ | ⟨_, hi⟩
    · exact .inl h1
    · rw [hn] at hi; cases hi

/-- A call that hands back something in a block of its own of which nothing is known. -/
theorem Does.of_hint {lo f : Nat} {args : List V} {σ : St} {v : V} (hb : ∃ fn c, P.funcs[f]? = some fn ∧ fn.body = some c ∧ fn.name ≠ "runtime.NumGoroutine")
    (h : ∀ (m : Mp) (w : World) (cargs : Array Value), Rel lo m σ w → VRs m args cargs.toList → Calls P f cargs w fun e w' => ∃ cv N, e = .returned cv ∧ VR (upd m σ.next ⟨N, 0, 0⟩) v cv ∧ Below w.heap.size w w' ∧ w.heap.size ≤ N ∧ N < w'.heap.size) : Does P lo f args σ v (σ.new .none) := by
  intro m w cargs hR ha
  refine ⟨hb, (h m w cargs hR ha).mono ?_⟩
  rintro e w' ⟨cv, N, rfl, h1, h2, h3, h4⟩
  obtain ⟨q1, q2⟩ := hR.hint h2 h3 h4
  exact ⟨cv, _, rfl, h1, q1, q2⟩

omit [Gl] in
theorem below_drewN (w : World) (n : Nat) : Below w.heap.size w (w.drewN n) := ⟨rfl, rfl, rfl, Nat.le_refl _, fun _ _ => rfl⟩
omit [Gl] in
theorem below_bytes (w : World) (e : TypeId) (s : ByteArray) : Below w.heap.size w (Lib.bytesWorld w e s) :=
  ⟨rfl, rfl, rfl, by rw [Lib.bytesWorld_size]; omega, fun k hk => Lib.bytesWorld_at_old w e s k hk⟩

/-- Bytes. -/
def bytes (s : List Nat) : List UInt8 := s.map UInt8.ofNat
omit [Gl] in
theorem bytes_of {b : ByteArray} {s : List Nat} (h : b.data.toList.map (·.toNat) = s) : b.data.toList = bytes s := by
  subst h
  unfold bytes
  rw [List.map_map]
  conv => lhs; rw [← List.map_id b.data.toList]
  refine List.map_congr_left fun x _ => ?_
  simp
omit [Gl] in
theorem toNat_bytes (l : List UInt8) : bytes (l.map (·.toNat)) = l := by
  unfold bytes
  rw [List.map_map]
  conv => rhs; rw [← List.map_id l]
  refine List.map_congr_left fun x _ => ?_
  simp

omit [Gl] in
/-- A string that is handed back. -/
theorem VR_mk (m : Mp) (l : List UInt8) : VR m (.str (l.map (·.toNat))) (.string ⟨l.toArray⟩) := by
  simp only [VR]
  exact ⟨_, rfl, by simp⟩

omit [Gl] in
theorem VRs1 {m : Mp} {s : List Nat} {cl : Array Value} (h : VRs m [.str s] cl.toList) : ∃ b : ByteArray, cl = #[.string b] ∧ b.data.toList = bytes s ∧ b.data.toList.map (·.toNat) = s := by
  obtain ⟨y, ys, h1, h2, h3⟩ := VRs_cons_inv h
  have := VRs_nil_inv h3
  subst this
  simp only [VR] at h2
  obtain ⟨b, rfl, hb⟩ := h2
  exact ⟨b, by apply Array.toList_inj.1; rw [h1], bytes_of hb, hb⟩
omit [Gl] in
theorem VRs2 {m : Mp} {s t : List Nat} {cl : Array Value} (h : VRs m [.str s, .str t] cl.toList) : ∃ b c : ByteArray, cl = #[.string b, .string c] ∧ (b.data.toList = bytes s ∧ b.data.toList.map (·.toNat) = s) ∧ c.data.toList = bytes t ∧ c.data.toList.map (·.toNat) = t := by
  obtain ⟨y, ys, h1, h2, h3⟩ := VRs_cons_inv h
  obtain ⟨z, zs, rfl, h4, h5⟩ := VRs_cons_inv h3
  have := VRs_nil_inv h5
  subst this
  simp only [VR] at h2 h4
  obtain ⟨b, rfl, hb⟩ := h2
  obtain ⟨c, rfl, hc⟩ := h4
  exact ⟨b, c, by apply Array.toList_inj.1; rw [h1], ⟨bytes_of hb, hb⟩, bytes_of hc, hc⟩
omit [Gl] in
theorem VRsI {m : Mp} {k : IntKind} {n : Int} {cl : Array Value} (h : VRs m [.int k n] cl.toList) : cl = #[.int k n] := by
  obtain ⟨y, ys, h1, h2, h3⟩ := VRs_cons_inv h
  have := VRs_nil_inv h3
  subst this
  simp only [VR] at h2
  subst h2
  apply Array.toList_inj.1; rw [h1]

/-- What a package variable holds. -/
theorem Rel.global {lo : Nat} {m : Mp} {σ : St} {w : World} (hR : Rel lo m σ w) {g : Nat} (hg : g < Gl.ng) {cs : List V} {rw' : Bool} {anc : List Nat} (h : σ.mem.get g = .cells cs rw' anc) {j : Nat} {v : V} (hj : cs[j]? = some v) :
    ∃ cv, w.cell? ⟨g, j, none⟩ = some cv ∧ VR m v cv := by
  obtain ⟨cv, h1, h2⟩ := hR.cell g _ cs rw' anc (hR.pins g hg) h j v hj
  exact ⟨cv, by rw [← h1]; simp, h2⟩

end

end Go.Vm

/- Arguments read as values of the evaluator; what a law's call leaves. -/
namespace Go.Vm
variable [Gl]
open Go.RowKit Go.ChangeShapes Go.WideShapes Go.Deep

section
variable {P : Program} {H : Type} {enc : TypeId × Value → H}

/-- The memory seen, nothing of it to be written. -/
structure View (m : Mp) (σ : St) (w : World) : Prop where
  rel : Rel 0 m σ w
  ro : ∀ id cs anc, σ.mem.get id ≠ .cells cs true anc
  nomap : ∀ id es, σ.mem.get id ≠ .map es

theorem View.not_owned {m : Mp} {σ : St} {w : World} (h : View m σ w) (cb : Nat) : ¬ Owned 0 m σ cb := by
  rintro ⟨id, i, _, _, _, ⟨cs, anc, hg⟩ | ⟨es, hg⟩⟩
  · exact h.ro id cs anc hg
  · exact h.nomap id es hg

theorem View.add {m : Mp} {σ : St} {w : World} (h : View m σ w) {cs : List V} {blk off : Nat} (hb : blk < w.heap.size)
    (hc : ∀ (j : Nat) (v : V), cs[j]? = some v → ∃ cv, w.cell? ⟨blk, off + j, none⟩ = some cv ∧ VR m v cv) : View (upd m σ.next ⟨blk, off, 0⟩) (σ.new (.cells cs false [])) w := by
  have hle : Le m (upd m σ.next ⟨blk, off, 0⟩) := Le.upd h.rel.fresh
  have hget : ∀ id, id < σ.next → (σ.new (.cells cs false [])).mem.get id = σ.mem.get id := fun id hid => σ.new_get_ne _ (by omega)
  have ro : ∀ id cs' anc, (σ.new (.cells cs false [])).mem.get id ≠ .cells cs' true anc := by
    intro id cs' anc e
    rw [St.new_get'] at e
    split at e
    · cases e
    · exact h.ro id cs' anc e
  have nomap : ∀ id es, (σ.new (.cells cs false [])).mem.get id ≠ .map es := by
    intro id es e
    rw [St.new_get'] at e
    split at e
    · cases e
    · exact h.nomap id es e
  refine ⟨⟨h.rel.pins.mono hle, ?_, ?_, fun id i es _ hg => (nomap id es hg).elim, fun id i cs' anc _ _ hg => (ro id cs' anc hg).elim, fun id i es _ _ hg => (nomap id es hg).elim⟩, ro, nomap⟩
  · intro id i hi
    rw [St.new_next]
    rcases upd_inv hi with ⟨rfl, rfl⟩ | ⟨_, hi⟩
    · exact ⟨by omega, hb⟩
    · have := h.rel.dom id i hi; exact ⟨by omega, this.2⟩
  · intro id i cs' rw' anc hi hg j v hj
    rcases upd_inv hi with ⟨rfl, rfl⟩ | ⟨_, hi⟩
    · rw [St.new_get] at hg
      cases hg
      obtain ⟨cv, h1, h2⟩ := hc j v hj
      exact ⟨cv, h1, VR.mono hle _ _ h2⟩
    · rw [hget id (h.rel.dom id i hi).1] at hg
      obtain ⟨cv, h1, h2⟩ := h.rel.cell id i cs' rw' anc hi hg j v hj
      exact ⟨cv, h1, VR.mono hle _ _ h2⟩

/-- Nothing is known yet. -/
def m0 [Gl] : Mp := fun g => if g < Gl.ng then some ⟨g, 0, 0⟩ else none
def σ0 [Gl] : St := ⟨M.nil, Gl.ng⟩
theorem View.start {w : World} (h : Gl.ng ≤ w.heap.size) : View m0 σ0 w := by
  refine ⟨Rel.blank (fun g hg => by simp [m0, hg]) ?_, fun id cs anc e => nil_not e (by simp), fun id es e => nil_not e (by simp)⟩
  intro id i hi
  unfold m0 at hi
  split at hi
  · cases hi
    exact ⟨by assumption, by simp only; omega⟩
  · cases hi

/-- A package variable's cells. -/
theorem View.glob {m : Mp} {σ : St} {w : World} (h : View m σ w) {g : Nat} (hg : g < Gl.ng) {cs : List V} (hc : ∀ (j : Nat) (v : V), cs[j]? = some v → ∃ cv, w.cell? ⟨g, j, none⟩ = some cv ∧ VR m v cv) : View m (σ.put g (.cells cs false [])) w := by
  have ro : ∀ id cs' anc, (σ.put g (.cells cs false [])).mem.get id ≠ .cells cs' true anc := by
    intro id cs' anc e
    rw [St.put_get'] at e
    split at e
    · cases e
    · exact h.ro id cs' anc e
  have nomap : ∀ id es, (σ.put g (.cells cs false [])).mem.get id ≠ .map es := by
    intro id es e
    rw [St.put_get'] at e
    split at e
    · cases e
    · exact h.nomap id es e
  refine ⟨⟨h.rel.pins, h.rel.dom, ?_, fun id i es _ hg => (nomap id es hg).elim, fun id i cs' anc _ _ hg => (ro id cs' anc hg).elim, fun id i es _ _ hg => (nomap id es hg).elim⟩, ro, nomap⟩
  intro id i cs' rw' anc hi hg' j v hj
  rw [St.put_get'] at hg'
  split at hg'
  · rename_i e
    subst e
    cases hg'
    have := h.rel.pins _ hg
    rw [hi] at this
    cases this
    obtain ⟨cv, h1, h2⟩ := hc j v hj
    exact ⟨cv, by simpa using h1, h2⟩
  · exact h.rel.cell id i cs' rw' anc hi hg' j v hj

/-- A datum's cells in the store. -/
inductive Den (P : Program) (σ : St) : TypeId → DataW H → List V → Prop where
  | bool {t : TypeId} {b : Bool} (ht : P.underlying t = some .bool) : Den P σ t (.lit (.bool b)) [.bool b]
  | int {t : TypeId} {k : IntKind} {n : Int} (ht : P.underlying t = some (.int k)) (hw : (Lit.int k n).wf = true) : Den P σ t (.lit (.int k n)) [.int k n]
  | str {t : TypeId} {s : ByteArray} (ht : P.underlying t = some .string) (hs : s.size ≤ maxLen) : Den P σ t (.lit (.string s.data.toList)) [.str (s.data.toList.map (·.toNat))]
  | nilS {t e : TypeId} (ht : P.underlying t = some (.slice e)) : Den P σ t .nil [.nilsl]
  | slice {t e : TypeId} {b cap : Nat} {elems spare : List (DataW H)} {cells : List (List V)} (ht : P.underlying t = some (.slice e)) (hb : b < σ.next) (hg : σ.mem.get b = .cells cells.flatten false []) (hl : elems.length = cells.length)
      (hc : elems.length ≤ cap) (hm : cap ≤ maxLen) (hz : ∀ c ∈ cells, c.length = P.cellsOf e) (he : ∀ (i : Nat) d c, elems[i]? = some d → cells[i]? = some c → Den P σ e d c) : Den P σ t (.slice elems spare) [.slice b 0 elems.length (.is cap)]
  | struct {t : TypeId} {fs : Array Field} {ds : List (DataW H)} {parts : List (List V)} (ht : P.underlying t = some (.struct fs)) (hl : ds.length = fs.size) (hp : parts.length = fs.size)
      (he : ∀ (i : Nat) f d c, fs[i]? = some f → ds[i]? = some d → parts[i]? = some c → Den P σ f.type d c) : Den P σ t (.agg ds) parts.flatten

omit [Gl] in
theorem Den.keeps {σ σ' : St} {t : TypeId} {d : DataW H} {vs : List V} (h : Den P σ t d vs) (hk : Keeps σ σ') : Den P σ' t d vs := by
  induction h with
  | bool ht => exact .bool ht
  | int ht hw => exact .int ht hw
  | str ht hs => exact .str ht hs
  | nilS ht => exact .nilS ht
  | slice ht hb hg hl hc hm hz _ ih => exact .slice ht (Nat.lt_of_lt_of_le hb hk.next) (hk.old hg hb) hl hc hm hz ih
  | struct ht hl hp _ ih => exact .struct ht hl hp ih

/-- The fields lie one behind the other. -/
def rowed (P : Program) : Nat → List Field → Option Nat
  | o, [] => some o
  | o, f :: fs => if f.offset = o then rowed P (o + P.cellsOf f.type) fs else none

/-- Types that are read so. -/
def plainT (P : Program) (S : List TypeId) (t : TypeId) : Bool :=
  match P.underlying t with
  | some .bool => true
  | some (.int _) => true
  | some .string => true
  | some (.slice e) => S.contains e && decide (0 < P.cellsOf e)
  | some (.struct fs) => (rowed P 0 fs.toList == some (P.cellsOf t)) && fs.toList.all fun f => S.contains f.type
  | _ => false

omit [Gl] in
theorem VRs_flat {m : Mp} : ∀ {cells : List (List V)} {cl : List (List Value)}, cells.length = cl.length → (∀ (i : Nat) c d, cells[i]? = some c → cl[i]? = some d → VRs m c d) → VRs m cells.flatten cl.flatten
  | [], cl, h, _ => by
    have : cl = [] := List.length_eq_zero_iff.1 h.symm
    subst this; exact VRs_nil m
  | c :: cells, [], h, _ => by simp at h
  | c :: cells, d :: cl, h, he => by
    simp only [List.flatten_cons]
    exact VRs_append (he 0 c d rfl rfl) (VRs_flat (by simpa using h) fun i c' d' h1 h2 => he (i + 1) c' d' (by simpa using h1) (by simpa using h2))

omit [Gl] in
theorem flat_at {α : Type} {k : Nat} (hk : 0 < k) : ∀ {l : List (List α)} (j : Nat), (∀ c ∈ l, c.length = k) → l.flatten[j]? = (l[j / k]?).bind (·[j % k]?)
  | [], j, _ => by simp
  | c :: l, j, h => by
    have hc := h c (by simp)
    rw [List.flatten_cons]
    by_cases hj : j < k
    · rw [List.getElem?_append_left (by omega), Nat.div_eq_of_lt hj, Nat.mod_eq_of_lt hj]; simp
    · rw [List.getElem?_append_right (by omega), hc, flat_at hk (j - k) fun c hc => h c (by simp [hc])]
      have h1 : j = (j - k) + k := by omega
      have h2 : j / k = (j - k) / k + 1 := by rw [h1, Nat.add_div_right _ hk]; simp
      have h3 : j % k = (j - k) % k := by conv => lhs; rw [h1, Nat.add_mod_right]
      rw [h2, h3]; simp

omit [Gl] in
theorem rowed_parts : ∀ (fs : List Field) (o z : Nat) (cs : List Value), rowed P o fs = some z → cs.length = z → cs.drop o = (fs.map fun f => (cs.drop f.offset).take (P.cellsOf f.type)).flatten
  | [], o, z, cs, h, hl => by
    simp only [rowed, Option.some.injEq] at h
    simp only [List.map_nil, List.flatten_nil]
    exact List.drop_of_length_le (by omega)
  | f :: fs, o, z, cs, h, hl => by
    unfold rowed at h
    split at h
    · rename_i ho
      simp only [List.map_cons, List.flatten_cons]
      rw [← rowed_parts fs _ z cs h hl, ho]
      rw [← List.drop_drop, List.take_append_drop]
    · cases h

section
variable {W : World} {S : List TypeId}

def OpensAt (P : Program) (enc : TypeId × Value → H) (W : World) (S : List TypeId) (n : Nat) : Prop :=
  ∀ (t : TypeId) (cs : List Value) (d : DataW H) (ps : List MemPlace) (m : Mp) (σ : St), t ∈ S → DataW.trod enc P W 0 (fun _ => true) true n t cs = some (d, ps) → View m σ W →
    ∃ m' σ' vs, View m' σ' W ∧ Le m m' ∧ Keeps σ σ' ∧ Den P σ' t d vs ∧ VRs m' vs cs

theorem open_items {n : Nat} (ih : OpensAt P enc W S n) : ∀ (l : List (TypeId × List Value × DataW H)) (m : Mp) (σ : St), (∀ x ∈ l, x.1 ∈ S ∧ ∃ ps, DataW.trod enc P W 0 (fun _ => true) true n x.1 x.2.1 = some (x.2.2, ps)) → View m σ W →
    ∃ (m' : Mp) (σ' : St) (parts : List (List V)), View m' σ' W ∧ Le m m' ∧ Keeps σ σ' ∧ parts.length = l.length ∧ ∀ (i : Nat) x c, l[i]? = some x → parts[i]? = some c → Den P σ' x.1 x.2.2 c ∧ VRs m' c x.2.1
  | [], m, σ, _, hv => ⟨m, σ, [], hv, Le.refl m, Keeps.refl σ, rfl, fun i x c h => by simp at h⟩
  | x :: l, m, σ, hl, hv => by
    obtain ⟨h1, ps, h2⟩ := hl x (by simp)
    obtain ⟨m1, σ1, vs, v1, l1, k1, d1, r1⟩ := ih x.1 x.2.1 x.2.2 ps m σ h1 h2 hv
    obtain ⟨m2, σ2, parts, v2, l2, k2, hp, he⟩ := open_items ih l m1 σ1 (fun y hy => hl y (by simp [hy])) v1
    refine ⟨m2, σ2, vs :: parts, v2, l1.trans l2, k1.trans k2, by simp [hp], fun i y c hy hc => ?_⟩
    cases i with
    | zero =>
      simp only [List.getElem?_cons_zero, Option.some.injEq] at hy hc
      subst hy hc
      exact ⟨d1.keeps k2, VRs.mono l2 _ _ r1⟩
    | succ i => exact he i y c (by simpa using hy) (by simpa using hc)

theorem open_all (hng : 0 < W.heap.size) (hS : ∀ t ∈ S, plainT P S t = true) : ∀ n, OpensAt P enc W S n := by
  intro n
  induction n with
  | zero => intro t cs d ps m σ ht h; cases h
  | succ n ih =>
    intro t cs d ps m σ ht h hv
    have hp := hS t ht
    unfold plainT at hp
    split at hp
    · rename_i hu
      obtain ⟨b, rfl, hx⟩ := DataW.trod_bool hu h
      cases hx
      exact ⟨m, σ, [.bool b], hv, Le.refl m, Keeps.refl σ, .bool hu, VRs_cons (by simp only [VR]) (VRs_nil m)⟩
    · rename_i k hu
      obtain ⟨i, rfl, hx, hw⟩ := DataW.trod_int hu h
      cases hx
      exact ⟨m, σ, [.int k i], hv, Le.refl m, Keeps.refl σ, .int hu hw, VRs_cons (by simp only [VR]) (VRs_nil m)⟩
    · rename_i hu
      obtain ⟨s, rfl, hx, hw⟩ := DataW.trod_string hu h
      cases hx
      exact ⟨m, σ, [.str (s.data.toList.map (·.toNat))], hv, Le.refl m, Keeps.refl σ, .str hu hw, VRs_cons (by simp only [VR]; exact ⟨s, rfl, rfl⟩) (VRs_nil m)⟩
    · rename_i e hu
      simp only [Bool.and_eq_true, List.contains_iff_mem, decide_eq_true_eq] at hp
      obtain ⟨heS, hk⟩ := hp
      rcases DataW.trod_slice hu h with ⟨rfl, hx⟩ | ⟨a, len, cap, elems, rest, n', hn, rfl, hx, _, hlc, hm, hlen, hel, hsp, _⟩
      · cases hx
        exact ⟨m, σ, [.nilsl], hv, Le.refl m, Keeps.refl σ, .nilS hu, VRs_cons (by simp only [VR]) (VRs_nil m)⟩
      · cases hn
        cases hx
        have hex : ∀ i, i < len → ∃ cs' y, W.cells? 0 (a.add (i * P.cellsOf e)) (P.cellsOf e) = some cs' ∧ DataW.trod enc P W 0 (fun _ => true) true n e cs' = some y ∧ elems[i]? = some y := by
          intro i hi
          have h1 := hel i hi
          rw [List.getElem?_eq_getElem (by omega), Option.bind_eq_some_iff] at h1
          obtain ⟨cs', q1, q2⟩ := h1
          exact ⟨cs', _, q1, q2, List.getElem?_eq_getElem (by omega)⟩
        let C : Nat → List Value := fun i => if h : i < len then Classical.choose (hex i h) else []
        have hC : ∀ i, i < len → W.cells? 0 (a.add (i * P.cellsOf e)) (P.cellsOf e) = some (C i) ∧ ∃ y, DataW.trod enc P W 0 (fun _ => true) true n e (C i) = some y ∧ elems[i]? = some y := by
          intro i hi
          have : C i = Classical.choose (hex i hi) := dif_pos hi
          rw [this]
          obtain ⟨y, q1, q2, q3⟩ := Classical.choose_spec (hex i hi)
          exact ⟨q1, y, q2, q3⟩
        obtain ⟨m1, σ1, parts, v1, l1, k1, hpl, hpe⟩ := open_items ih ((List.range len).map fun i => (e, C i, (elems.getD i (.nil, [])).1)) m σ (by
          intro x hx
          obtain ⟨i, hi, rfl⟩ := List.mem_map.1 hx
          have hi' := List.mem_range.1 hi
          obtain ⟨_, y, q2, q3⟩ := hC i hi'
          refine ⟨heS, y.2, ?_⟩
          rw [q2]
          simp [List.getD, q3]) hv
        have hpl' : parts.length = len := by rw [hpl]; simp
        have item : ∀ i, i < len → ((List.range len).map fun i => (e, C i, (elems.getD i (.nil, [])).1))[i]? = some (e, C i, (elems.getD i (.nil, [])).1) := by
          intro i hi
          rw [List.getElem?_map, List.getElem?_range hi]; rfl
        have hcell : ∀ i, i < len → (C i).length = P.cellsOf e := fun i hi => (World.cells?_some (hC i hi).1).2.1
        have hpz : ∀ c ∈ parts, c.length = P.cellsOf e := by
          intro c hc
          obtain ⟨i, hi⟩ := List.getElem?_of_mem hc
          have hlt : i < len := by have := (List.getElem?_eq_some_iff.1 hi).1; omega
          rw [VRs_length (hpe i _ c (item i hlt) hi).2]
          exact hcell i hlt
        -- where the row lies
        have hplace : ∃ blk off, blk < W.heap.size ∧ (cap ≠ 0 → a = ⟨blk, off, none⟩) := by
          by_cases hc0 : cap = 0
          · exact ⟨0, 0, hng, fun h => absurd hc0 h⟩
          · have h0 : ∃ cs', W.cells? 0 (a.add (0 * P.cellsOf e)) (P.cellsOf e) = some cs' := by
              by_cases hl0 : 0 < len
              · obtain ⟨cs', _, q1, _⟩ := hex 0 hl0
                exact ⟨cs', q1⟩
              · have := (hsp rfl).2 0 (by omega)
                have hr := (hsp rfl).1
                rw [List.getElem?_eq_getElem (by omega), Option.bind_eq_some_iff] at this
                obtain ⟨cs', q1, _⟩ := this
                have e0 : len + 0 = 0 := by omega
                rw [e0] at q1
                exact ⟨cs', q1⟩
            obtain ⟨cs', q1⟩ := h0
            obtain ⟨_, q2, q3⟩ := World.cells?_some q1
            have q4 := q3 0 hk
            simp only [Nat.zero_mul, Addr.add, if_true] at q4
            rw [List.getElem?_eq_getElem (by omega)] at q4
            unfold World.cell? at q4
            split at q4
            · rename_i c _ _ hb
              split at q4
              · cases q4
              · rename_i hs
                refine ⟨a.block, a.off, (Array.getElem?_eq_some_iff.1 hb).1, fun _ => ?_⟩
                have : a.spot = none := by cases h : a.spot with | none => rfl | some x => simp [h] at hs
                cases a; simp at this; subst this; rfl
            · cases q4
        obtain ⟨blk, off, hblk, hplace⟩ := hplace
        have hview := v1.add (cs := parts.flatten) (blk := blk) (off := off) hblk (by
          intro j v hj
          rw [flat_at hk j hpz] at hj
          obtain ⟨c, q1, q2⟩ := Option.bind_eq_some_iff.1 hj
          have hlt : j / P.cellsOf e < len := by have := (List.getElem?_eq_some_iff.1 q1).1; omega
          obtain ⟨_, q4⟩ := hpe _ _ c (item _ hlt) q1
          obtain ⟨cv, q5, q6⟩ := ((VRs_iff m1 _ _).1 q4).2 _ v q2
          have hcap : cap ≠ 0 := fun h0 => by rw [h0] at hlc; exact absurd (Nat.lt_of_lt_of_le hlt hlc) (Nat.not_lt_zero _)
          have ha := hplace hcap
          have q7 := (World.cells?_some (hC _ hlt).1).2.2 (j % P.cellsOf e) (Nat.mod_lt _ hk)
          refine ⟨cv, ?_, q6⟩
          rw [q5, Go.Deep.add_add, ha, add_plain] at q7
          rw [← q7]
          congr 2
          have := Nat.div_add_mod j (P.cellsOf e)
          rw [Nat.mul_comm] at this
          omega)
        have hle := Le.upd (i := ⟨blk, off, 0⟩) v1.rel.fresh
        refine ⟨_, _, [.slice σ1.next 0 len (.is cap)], hview, l1.trans hle, k1.add _, ?_, VRs_cons ?_ (VRs_nil _)⟩
        · have := Den.slice (P := P) (σ := σ1.new (.cells parts.flatten false [])) (elems := elems.map (·.1)) (spare := rest.map (·.1)) (b := σ1.next) (cap := cap) (cells := parts) hu (by rw [St.new_next]; omega) (St.new_get _ _) (by simp; omega) (by simp; omega) hm hpz (by
            intro i d c hd hc
            have hlt : i < len := by have := (List.getElem?_eq_some_iff.1 hc).1; omega
            obtain ⟨q3, _⟩ := hpe i _ c (item i hlt) hc
            have hdd : (elems.getD i (.nil, [])).1 = d := by
              rw [List.getElem?_map] at hd
              obtain ⟨y, q1, rfl⟩ := Option.map_eq_some_iff.1 hd
              simp [List.getD, q1]
            have q3' := q3.keeps (Keeps.new σ1 (.cells parts.flatten false []))
            rw [hdd] at q3'
            exact q3')
          simpa [hlen] using this
        · simp only [VR]
          refine ⟨_, a, cap, upd_same _ _ _, rfl, hlc, fun hc => ?_, rfl⟩
          rw [hplace hc]; simp
    · rename_i fs hu
      simp only [Bool.and_eq_true, List.all_eq_true, List.contains_iff_mem] at hp
      obtain ⟨hrow, hfS⟩ := hp
      have hrow : rowed P 0 fs.toList = some (P.cellsOf t) := by simpa using hrow
      obtain ⟨xs, n', hn, hx, hcl, hxl, hxe⟩ := DataW.trod_struct hu h
      cases hn
      cases hx
      obtain ⟨m1, σ1, parts, v1, l1, k1, hpl, hpe⟩ := open_items ih (fs.toList.zipIdx.map fun f => (f.1.type, (cs.drop f.1.offset).take (P.cellsOf f.1.type), (xs.getD f.2 (.nil, [])).1)) m σ (by
        intro x hx
        obtain ⟨⟨f, i⟩, hi, rfl⟩ := List.mem_map.1 hx
        have hf : fs[i]? = some f := by simpa using List.mem_zipIdx_iff_getElem?.1 hi
        have hfm : f ∈ fs.toList := by rw [Array.mem_toList_iff]; exact Array.mem_of_getElem? hf
        refine ⟨hfS f hfm, (xs.getD i (.nil, [])).2, ?_⟩
        have h1 := hxe i f hf
        have hlt : i < xs.length := by have := (Array.getElem?_eq_some_iff.1 hf).1; omega
        simp only
        rw [h1]
        simp [List.getD, List.getElem?_eq_getElem hlt]) hv
      have item : ∀ i f, fs[i]? = some f → (fs.toList.zipIdx.map fun f => (f.1.type, (cs.drop f.1.offset).take (P.cellsOf f.1.type), (xs.getD f.2 (.nil, [])).1))[i]? = some (f.type, (cs.drop f.offset).take (P.cellsOf f.type), (xs.getD i (.nil, [])).1) := by
        intro i f hf
        rw [List.getElem?_map, List.getElem?_zipIdx]
        have : fs.toList[i]? = some f := by simpa using hf
        rw [this]; simp
      have hpl' : parts.length = fs.size := by rw [hpl]; simp
      refine ⟨m1, σ1, parts.flatten, v1, l1, k1, .struct hu (by simp; omega) hpl' ?_, ?_⟩
      · intro i f d c hf hd hc
        obtain ⟨q1, _⟩ := hpe i _ c (item i f hf) hc
        have hdd : (xs.getD i (.nil, [])).1 = d := by
          rw [List.getElem?_map] at hd
          obtain ⟨y, q1, rfl⟩ := Option.map_eq_some_iff.1 hd
          simp [List.getD, q1]
        simp only at q1
        rwa [hdd] at q1
      · have hcs := rowed_parts fs.toList 0 _ cs hrow hcl
        rw [List.drop_zero] at hcs
        rw [hcs]
        refine VRs_flat (by simp [hpl']) fun i c d hc hd => ?_
        rw [List.getElem?_map] at hd
        obtain ⟨f, q1, rfl⟩ := Option.map_eq_some_iff.1 hd
        exact (hpe i _ c (item i f (by simpa using q1)) hc).2
    · cases hp

end

end

end Go.Vm

/- A law's call: its arguments opened, what it leaves. -/
namespace Go.Vm
variable [Gl]
open Go.RowKit Go.ChangeShapes Go.WideShapes Go.Deep

section
variable {P : Program} {H : Type} {enc : TypeId × Value → H}

/-- A value of a struct is one value. -/
def mkV (P : Program) (t : TypeId) (cs : List V) : V :=
  match P.underlying t with
  | some (.struct _) => .agg cs
  | _ => cs.headD .nilptr

inductive DenAll (P : Program) (σ : St) : List TypeId → List (DataW H) → List V → Prop where
  | nil : DenAll P σ [] [] []
  | cons {t ts d ds cs vs} (h : Den P σ t d cs) (hs : DenAll P σ ts ds vs) : DenAll P σ (t :: ts) (d :: ds) (mkV P t cs :: vs)

omit [Gl] in
theorem DenAll.cons_inv {σ : St} {t : TypeId} {ts : List TypeId} {ds : List (DataW H)} {xs : List V} (h : DenAll P σ (t :: ts) ds xs) : ∃ d ds' cs vs, ds = d :: ds' ∧ xs = mkV P t cs :: vs ∧ Den P σ t d cs ∧ DenAll P σ ts ds' vs := by
  cases h with
  | cons h hs => exact ⟨_, _, _, _, rfl, rfl, h, hs⟩

omit [Gl] in
theorem DenAll.nil_inv {σ : St} {ds : List (DataW H)} {xs : List V} (h : DenAll P σ [] ds xs) : ds = [] ∧ xs = [] := by
  cases h; exact ⟨rfl, rfl⟩

omit [Gl] in
theorem DenAll.keeps {σ σ' : St} {ts : List TypeId} {ds : List (DataW H)} {xs : List V} (h : DenAll P σ ts ds xs) (hk : Keeps σ σ') : DenAll P σ' ts ds xs := by
  induction h with
  | nil => exact .nil
  | cons h _ ih => exact .cons (h.keeps hk) ih

omit [Gl] in
theorem Den.one {σ : St} {t : TypeId} {d : DataW H} {cs : List V} (h : Den P σ t d cs) (hn : ∀ fs, P.underlying t ≠ some (.struct fs)) : ∃ v, cs = [v] := by
  cases h with
  | struct ht => exact (hn _ ht).elim
  | _ => exact ⟨_, rfl⟩

section
variable {W : World} {S : List TypeId} {base : Nat}

theorem open_vals (hng : 0 < W.heap.size) (hS : ∀ t ∈ S, plainT P S t = true) : ∀ (ts : List TypeId) (vs : List Value) (ds : List (DataW H)) (ps : List MemPlace) (m : Mp) (σ : St), (∀ t ∈ ts, t ∈ S) →
    (∀ (j : Nat) t v, ts[j]? = some t → vs[j]? = some v → Value.okWide P W .any base t v) → DataW.TrodAll enc P W 0 (fun _ => true) true ts vs ds ps → View m σ W →
    ∃ m' σ' xs, View m' σ' W ∧ Le m m' ∧ Keeps σ σ' ∧ DenAll P σ' ts ds xs ∧ VRs m' xs vs
  | [], vs, ds, ps, m, σ, _, _, h, hv => by
    obtain ⟨rfl, rfl, _⟩ := trodAll_nil h
    exact ⟨m, σ, [], hv, Le.refl m, Keeps.refl σ, .nil, VRs_nil m⟩
  | t :: ts, vs, ds, ps, m, σ, hts, hok, h, hv => by
    obtain ⟨v, vs', d, ds', p, q, rfl, rfl, rfl, ⟨n, h0⟩, hr⟩ := trodAll_cons h
    have ht := hts t (by simp)
    obtain ⟨m1, σ1, cs, v1, l1, k1, d1, r1⟩ := open_all (enc := enc) hng hS n t _ d p m σ ht h0 hv
    obtain ⟨m2, σ2, xs, v2, l2, k2, d2, r2⟩ := open_vals hng hS ts vs' ds' q m1 σ1 (fun t ht => hts t (by simp [ht])) (fun j t v h1 h2 => hok (j + 1) t v (by simpa using h1) (by simpa using h2)) hr v1
    refine ⟨m2, σ2, mkV P t cs :: xs, v2, l1.trans l2, k1.trans k2, .cons (d1.keeps k2) d2, VRs_cons (VR.mono l2 _ _ ?_) r2⟩
    have hok := hok 0 t v rfl rfl
    unfold mkV
    split
    · rename_i fs hu
      simp only [Value.okWide, hu] at hok
      obtain ⟨a, rfl, _, _⟩ := hok
      simp only [VR]
      exact ⟨a, rfl, r1⟩
    · rename_i hu
      obtain ⟨x, rfl⟩ := d1.one (fun fs h => hu fs h)
      have hp := hS t ht
      have hc : v.cells = #[v] := by
        cases v <;> first | rfl | skip
        unfold plainT at hp
        split at hp <;> rename_i he
        all_goals first | (cases hp; done) | (exact (hu _ he).elim) | (simp only [Value.okWide, he, Cell.okWide, Cell.ok] at hok)
      rw [hc] at r1
      obtain ⟨y, ys, e1, e2, _⟩ := VRs_cons_inv r1
      simp only [List.cons.injEq] at e1
      rw [e1.1]
      exact e2

end

/-! What a listed variable holds. -/

omit [Gl] in
theorem map_one {α β : Type} {f : α → β} {b : β} : ∀ {l : List α}, l.map f = [b] → ∃ a, l = [a] ∧ f a = b
  | [a], h => ⟨a, rfl, by simpa using h⟩
  | [], h => by simp at h
  | _ :: _ :: _, h => by simp at h

omit [Gl] in
theorem mapM_some_one {α β : Type} {f : α → Option β} {l : List α} {y : β} (h : l.mapM f = some [y]) : ∃ a, f a = some y := by
  have h1 := mapM_some_length h
  match l, h1, h with
  | [a], _, h => exact ⟨a, by simpa using mapM_some_get h 0 a rfl⟩


omit [Gl] in
theorem laid_get {w : World} : ∀ {laid : List (String × DataW Unit)} {ps : List MemPlace}, DataW.LaidVars P w laid ps → ∀ {n : String} {d : DataW Unit}, (n, d) ∈ laid →
    ∃ g t cs fuel p, P.globalNamed n = some g ∧ (P.globals[g]?).map (·.type) = some t ∧ w.var? P n = some cs ∧ DataW.trod (fun _ => ()) P w 0 (fun _ => true) false fuel t cs.toList = some (d, p)
  | [], _, _, _, _, hm => by cases hm
  | (n', d') :: r, _, h, n, d, hm => by
    obtain ⟨g, t, cs, fuel, p, q, h1, h2, h3, h4, h5, _⟩ := h
    rcases List.mem_cons.1 hm with e | hm
    · cases e
      exact ⟨g, t, cs, fuel, p, h1, h2, h3, h4⟩
    · exact laid_get h5 hm

section
variable {w : World} {b0 : Nat} {sp : Nat → Bool}

omit [Gl] in
theorem trod_iface_inv {fuel : Nat} {t : TypeId} {cs : List Value} {n : String} {d : DataW H} {ps : List MemPlace} (h : DataW.trod enc P w b0 sp false fuel t cs = some (.iface n d, ps)) :
    ∃ u v k q, cs = [.iface u v] ∧ DataW.trod enc P w b0 sp false k u v.cells.toList = some (d, q) := by
  cases fuel with
  | zero => cases h
  | succ k =>
    unfold DataW.trod at h
    split at h
    all_goals try (simp only [Bool.false_eq_true, if_false, reduceCtorEq] at h; done)
    all_goals try (repeat' split at h)
    all_goals try simp only [Option.map_eq_some_iff, Option.bind_eq_some_iff, Prod.mk.injEq, Option.some.injEq, reduceCtorEq, false_and, and_false, exists_false] at h
    all_goals try (obtain ⟨_, _, h⟩ := h; split at h <;> simp only [Prod.mk.injEq, Option.some.injEq, reduceCtorEq, false_and] at h; done)
    obtain ⟨x, h1, ⟨_, rfl⟩, _⟩ := h
    exact ⟨_, _, k, x.2, rfl, h1⟩

omit [Gl] in
theorem trod_ptr_inv {fuel : Nat} {t : TypeId} {cs : List Value} {d : DataW H} {ps : List MemPlace} (h : DataW.trod enc P w b0 sp false fuel t cs = some (.ptr d, ps)) :
    ∃ e a cs' k q, cs = [.pointer (some a)] ∧ w.cells? b0 a (P.cellsOf e) = some cs' ∧ DataW.trod enc P w b0 sp false k e cs' = some (d, q) := by
  cases fuel with
  | zero => cases h
  | succ k =>
    unfold DataW.trod at h
    split at h
    all_goals try (simp only [Bool.false_eq_true, if_false, reduceCtorEq] at h; done)
    all_goals try (repeat' split at h)
    all_goals try simp only [Option.map_eq_some_iff, Option.bind_eq_some_iff, Prod.mk.injEq, Option.some.injEq, reduceCtorEq, false_and, and_false, exists_false] at h
    all_goals try (obtain ⟨_, _, h⟩ := h; split at h <;> simp only [Prod.mk.injEq, Option.some.injEq, reduceCtorEq, false_and] at h; done)
    obtain ⟨x, ⟨cs', h1, h2⟩, h3, _⟩ := h
    cases h3
    exact ⟨_, _, cs', k, x.2, rfl, h1, h2⟩

omit [Gl] in
theorem trod_lit_nil {fuel : Nat} {t : TypeId} {l : Lit} {ps : List MemPlace} (h : DataW.trod enc P w b0 sp false fuel t [] = some (.lit l, ps)) : False := by
  cases fuel with
  | zero => cases h
  | succ k =>
    unfold DataW.trod at h
    split at h
    all_goals try (rename_i heq; cases heq; done)
    all_goals try (repeat' split at h)
    all_goals try simp only [Option.map_eq_some_iff, Prod.mk.injEq, reduceCtorEq, false_and, and_false, exists_false] at h
    all_goals try (obtain ⟨_, _, h⟩ := h; split at h <;> simp only [Prod.mk.injEq, Option.some.injEq, reduceCtorEq, false_and] at h; done)

omit [Gl] in
theorem trod_agg_lit {fuel : Nat} {t : TypeId} {l : Lit} {ps : List MemPlace} (h : DataW.trod enc P w b0 sp false fuel t [] = some (.agg [.lit l], ps)) : False := by
  cases fuel with
  | zero => cases h
  | succ k =>
    unfold DataW.trod at h
    split at h
    all_goals try (rename_i heq; cases heq; done)
    all_goals try (repeat' split at h)
    all_goals try simp only [Option.map_eq_some_iff, Prod.mk.injEq, reduceCtorEq] at h
    all_goals try (obtain ⟨_, _, h⟩ := h; split at h <;> simp only [Prod.mk.injEq, Option.some.injEq, reduceCtorEq, false_and] at h; done)
    all_goals
      obtain ⟨x, h1, h2, _⟩ := h
      simp only [DataW.agg.injEq] at h2
      obtain ⟨y, rfl, h2⟩ := map_one h2
      obtain ⟨l0, hl⟩ := mapM_some_one h1
      simp only [List.drop_nil, List.take_nil] at hl
      obtain ⟨y1, y2⟩ := y
      cases h2
      exact trod_lit_nil hl

omit [Gl] in
/-- A variable that holds an error made once. -/
theorem sentinel {laid : List (String × DataW Unit)} {ps : List MemPlace} (h : DataW.LaidVars P w laid ps) {n s : String} {l : Lit} (hm : (n, .iface s (.ptr (.agg [.lit l]))) ∈ laid) {g : Nat} (hg : P.globalNamed n = some g) :
    ∃ u y a, w.cell? ⟨g, 0, none⟩ = some (.iface u y) ∧ (y = .pointer (some a) ∨ y = .agg #[.pointer (some a)]) ∧ a.spot = none ∧ a.block < w.heap.size := by
  obtain ⟨g', t, cs, fuel, p, h1, _, h3, h4⟩ := laid_get h hm
  obtain rfl := Option.some.inj (hg.symm.trans h1)
  obtain ⟨u, y, k, q, h5, h6⟩ := trod_iface_inv h4
  obtain ⟨e, a, cs', k2, q2, h7, h8, h9⟩ := trod_ptr_inv h6
  refine ⟨u, y, a, ?_, ?_, ?_⟩
  · have := World.var?_cell h1 h3 0
    rw [this, ← Array.getElem?_toList, h5]
    rfl
  · clear h4 h5 h6 h8 h9
    cases y with
    | agg c =>
      refine .inr ?_
      have h7' : c.toList = [.pointer (some a)] := h7
      rw [← Array.toArray_toList (xs := c), h7']
    | _ =>
      refine .inl ?_
      simp only [Value.cells, List.cons.injEq, and_true] at h7
      first | exact h7 | cases h7
  · have hne : cs' ≠ [] := by rintro rfl; exact trod_agg_lit h9
    obtain ⟨_, q3, q4⟩ := World.cells?_some h8
    have hpos : 0 < cs'.length := List.length_pos_iff.2 hne
    have q5 := q4 0 (by omega)
    rw [List.getElem?_eq_getElem hpos] at q5
    unfold World.cell? at q5
    split at q5
    · rename_i c _ _ hb
      split at q5
      · cases q5
      · rename_i hs
        refine ⟨?_, (Array.getElem?_eq_some_iff.1 hb).1⟩
        cases h : a.spot with
        | none => rfl
        | some x => simp [Addr.add, h] at hs
    · cases q5
end

theorem View.sentinel {m : Mp} {σ : St} {W : World} (h : View m σ W) {g : Nat} (hg : g < Gl.ng) (_hn : Gl.ng ≤ σ.next) {u : TypeId} {y : Value} {a : Addr} (hc : W.cell? ⟨g, 0, none⟩ = some (.iface u y)) (hy : y = .pointer (some a) ∨ y = .agg #[.pointer (some a)]) (hs : a.spot = none) (hb : a.block < W.heap.size) :
    ∃ m' σ' x, View m' σ' W ∧ Le m m' ∧ σ.next ≤ σ'.next ∧ σ'.mem.get g = .cells [.iface u x] false [] ∧ ∀ id, id < σ.next → id ≠ g → σ'.mem.get id = σ.mem.get id := by
  have hv := h.add (cs := []) (blk := a.block) (off := a.off) hb (fun j v hj => by simp at hj)
  have hp : VR (upd m σ.next ⟨a.block, a.off, 0⟩) (.ptr σ.next 0) (.pointer (some a)) := by
    simp only [VR]
    refine ⟨_, upd_same _ _ _, ?_⟩
    cases a; simp at hs; subst hs; rfl
  have hx : ∃ x, VR (upd m σ.next ⟨a.block, a.off, 0⟩) x y := by
    rcases hy with rfl | rfl
    · exact ⟨_, hp⟩
    · exact ⟨.agg [.ptr σ.next 0], by simp only [VR]; exact ⟨_, rfl, VRs_cons hp (VRs_nil _)⟩⟩
  obtain ⟨x, hx⟩ := hx
  refine ⟨_, _, x, hv.glob (g := g) hg (cs := [.iface u x]) ?_, Le.upd h.rel.fresh, ?_, ?_, ?_⟩
  · intro j v hj
    match j, hj with
    | 0, hj =>
      simp at hj; subst hj
      exact ⟨_, hc, by simp only [VR]; exact ⟨y, rfl, hx⟩⟩
    | j + 1, hj => simp at hj
  · show σ.next ≤ _
    exact Nat.le_succ _
  · rw [St.put_get']; simp
  · intro id hid hne
    rw [St.put_get', if_neg hne, St.new_get']
    rw [if_neg (by omega)]

/-! What an argument may be. -/

section
variable {σ : St} {t : TypeId} {d : DataW H} {vs : List V}

omit [Gl] in
theorem Den.bool_inv (h : Den P σ t d vs) (ht : P.underlying t = some .bool) : ∃ b, vs = [.bool b] := by
  cases h with
  | bool => exact ⟨_, rfl⟩
  | int h => rw [ht] at h; cases h
  | str h => rw [ht] at h; cases h
  | nilS h => rw [ht] at h; cases h
  | slice h => rw [ht] at h; cases h
  | struct h => rw [ht] at h; cases h

omit [Gl] in
theorem Den.int_inv (h : Den P σ t d vs) {k : IntKind} (ht : P.underlying t = some (.int k)) : ∃ n, vs = [.int k n] ∧ (Lit.int k n).wf = true := by
  cases h with
  | int h hw => rw [ht] at h; cases h; exact ⟨_, rfl, hw⟩
  | bool h => rw [ht] at h; cases h
  | str h => rw [ht] at h; cases h
  | nilS h => rw [ht] at h; cases h
  | slice h => rw [ht] at h; cases h
  | struct h => rw [ht] at h; cases h

omit [Gl] in
theorem Den.str_inv (h : Den P σ t d vs) (ht : P.underlying t = some .string) : ∃ s : List Nat, vs = [.str s] ∧ s.length ≤ maxLen ∧ ∀ c ∈ s, c < 256 := by
  cases h with
  | str h hs =>
    refine ⟨_, rfl, by simpa using hs, fun c hc => ?_⟩
    obtain ⟨x, _, rfl⟩ := List.mem_map.1 hc
    exact x.toNat_lt
  | bool h => rw [ht] at h; cases h
  | int h => rw [ht] at h; cases h
  | nilS h => rw [ht] at h; cases h
  | slice h => rw [ht] at h; cases h
  | struct h => rw [ht] at h; cases h

omit [Gl] in
theorem Den.struct_inv (h : Den P σ t d vs) {fs : Array Field} (ht : P.underlying t = some (.struct fs)) : ∃ (ds : List (DataW H)) (parts : List (List V)), ds.length = fs.size ∧ parts.length = fs.size ∧ vs = parts.flatten ∧
    ∀ (i : Nat) f d c, fs[i]? = some f → ds[i]? = some d → parts[i]? = some c → Den P σ f.type d c := by
  cases h with
  | struct h h1 h2 h3 => rw [ht] at h; cases h; exact ⟨_, _, h1, h2, rfl, h3⟩
  | bool h => rw [ht] at h; cases h
  | int h => rw [ht] at h; cases h
  | str h => rw [ht] at h; cases h
  | nilS h => rw [ht] at h; cases h
  | slice h => rw [ht] at h; cases h

omit [Gl] in
/-- A row of values of one cell each. -/
theorem Den.slice_inv (h : Den P σ t d vs) {e : TypeId} (ht : P.underlying t = some (.slice e)) (he : P.cellsOf e = 1) : ∃ (v : V) (xs : List V), vs = [v] ∧ Elems σ v xs ∧ xs.length ≤ maxLen ∧ ∀ x ∈ xs, ∃ d : DataW H, Den P σ e d [x] := by
  cases h with
  | nilS h => exact ⟨_, [], rfl, .inl ⟨rfl, rfl⟩, Nat.zero_le _, fun x hx => by cases hx⟩
  | @slice _ e' b cap elems spare cells h hb hg hl hc hm hz hE =>
    rw [ht] at h; cases h
    have one : ∀ c ∈ cells, ∃ x, c = [x] := fun c hc => by
      have := hz c hc
      rw [he] at this
      match c, this with
      | [x], _ => exact ⟨x, rfl⟩
    have hlen : ∀ {l : List (List V)}, (∀ c ∈ l, ∃ x, c = [x]) → l.flatten.length = l.length := by
      intro l
      induction l with
      | nil => intro _; rfl
      | cons c l ih =>
        intro hl
        obtain ⟨x, rfl⟩ := hl c (by simp)
        simp [ih fun c hc => hl c (by simp [hc])]
    have hfl := hlen one
    refine ⟨_, cells.flatten, rfl, .inr ⟨b, 0, .is cap, cells.flatten, false, [], by rw [hfl, hl], hb, hg, fun i x hx => by rw [Nat.zero_add]; exact hx⟩, by rw [hfl]; omega, fun x hx => ?_⟩
    obtain ⟨c, hcm, hxc⟩ := List.mem_flatten.1 hx
    obtain ⟨y, rfl⟩ := one c hcm
    simp only [List.mem_singleton] at hxc
    subst hxc
    obtain ⟨i, hi⟩ := List.getElem?_of_mem hcm
    have hlt : i < elems.length := by have := (List.getElem?_eq_some_iff.1 hi).1; omega
    exact ⟨_, hE i _ _ (List.getElem?_eq_getElem hlt) hi⟩
  | bool h => rw [ht] at h; cases h
  | int h => rw [ht] at h; cases h
  | str h => rw [ht] at h; cases h
  | struct h => rw [ht] at h; cases h
end

omit [Gl] in
theorem size_of_var {w : World} {n : String} {g : Nat} {cs : Array Value} (hg : P.globalNamed n = some g) (h : w.var? P n = some cs) : g < w.heap.size := by
  simp only [World.var?, hg, Option.bind_some] at h
  split at h
  · rename_i hb; exact (Array.getElem?_eq_some_iff.1 hb).1
  · cases h

/-- What a law's call leaves. -/
theorem calls_of_view {f : Nat} {xs : List V} {σ σ2 : St} {m : Mp} {W : World} {args : Array Value} (hD : Does P 0 f xs σ (.bool true) σ2) (hv : View m σ W) (ha : VRs m xs args.toList) :
    Calls P f args W fun e W' => e = .returned (.bool true) ∧ Below W.heap.size W W' := by
  refine (hD m W args hv.rel ha).2.mono ?_
  rintro e w' ⟨cv, m', rfl, h1, h2, h3⟩
  simp only [VR] at h1
  subst h1
  exact ⟨rfl, h3.env.2.1, h3.env.1, h3.env.2.2, h3.size, fun k hk => h3.frame k hk (hv.not_owned k)⟩

omit [Gl] in
theorem args_kept (hl : laidOutB P = true) {W W' : World} (h : Below W.heap.size W W') : ∀ {ts : List TypeId} {vs : List Value} {ds : List (DataW H)} {ps : List MemPlace}, (∀ t ∈ ts, P.readableRec t = true ∧ t < P.types.size) →
    DataW.TrodAll enc P W 0 (fun _ => true) true ts vs ds ps → (∀ x ∈ ps, x.block < W.heap.size) → DataW.TrodAll enc P W' 0 (fun b => decide (b < W.heap.size)) true ts vs ds ps
  | [], vs, ds, ps, _, hA, _ => by
    obtain ⟨rfl, rfl, rfl⟩ := trodAll_nil hA
    exact trodAll_mk0
  | t :: ts, vs, ds, ps, hts, hA, hp => by
    obtain ⟨v, vs', d, ds', p, q, rfl, rfl, rfl, h0, hr⟩ := trodAll_cons hA
    exact trodAll_cons_mk (Below.trod hl (hts t (by simp)).1 (hts t (by simp)).2 h0 h fun x hx => hp x (by simp [hx])) (args_kept hl h (fun t ht => hts t (by simp [ht])) hr fun x hx => hp x (by simp [hx]))

omit [Gl] in
theorem law_post {f : Func} {s : ChangeSpec} {apart fresh handsOn : Bool} {W W' : World} {args : Array Value} {ds gs : List (DataW H)} {before : List MemPlace} {t : TypeId}
    (hl : laidOutB P = true) (hts : ∀ t ∈ f.params.toList, P.readableRec t = true ∧ t < P.types.size) (hr : f.resultTypes = #[t]) (ht : P.underlying t = some .bool) (hn : s.vars = [])
    (hs : s.fn H ds = { results := [.lit (.bool true)], args := ds }) (hW : DataW.Whole enc P f.params.toList s.vars apart W args.toList ds gs before) (h : Below W.heap.size W W') :
    s.post enc P f apart fresh handsOn false W args (.bool true) W' := by
  have hW' := hW
  obtain ⟨p, q, hA, hV, rfl, hfz, hnd⟩ := hW
  rw [hn] at hV
  obtain ⟨rfl, rfl⟩ := trodVars_none hV
  refine ⟨ds, [], p ++ [], [], p, [], hW', ?_, ?_, ?_, h.frame _, fun e => by cases e⟩
  · rw [List.append_nil, hs, hr]
    exact trodAll_mk1 (shut_bool ht _)
  · rw [List.append_nil, hs]
    exact args_kept hl h hts hA fun x hx => by have := hW'.lt x (by simp [hx]); simpa using this
  · rw [List.append_nil, hs, hn]
    rfl

end

end Go.Vm

