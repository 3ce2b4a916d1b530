import PyProof.Rows.All
import Wide.All
import OpenK.AllK
import Wide.FinOn
import HandS.ForMost
import HandS.Deep
import HandS.IsInst
import HandS.Conv
import HandS.TupAny
import HandS.Style
import HandS.NoneIn
import HandS.Walk
import HandS.Zip
import HandS.TupMul
import KE.GoesEnum
import KE.KDictDisplayH
import KE.KIndexOf
import PySem.Challenge.RW_pairweights_k09_whole_weights_that_have
set_option Elab.async false
set_option linter.all false
set_option maxRecDepth 100000
set_option maxHeartbeats 4000000
/-! DL1: plain data D, what stands for it in the heap, operators by data. -/
namespace DL
open PySem PySem.Spec PyProof.Rows L2

/-- plain data -/
inductive D where
  | non | bl (b : Bool) | int (i : Int) | str (s : Str)
  | lst (xs : List D) | tup (xs : List D) | dic (m : List ((Int × Int) × Int)) | scr (ns : List Int) | ktup (ns : List Int)

def encD (m : List ((Int × Int) × Int)) : List (List Key × V) := m.map fun p => ([.inl p.1.1, .inl p.1.2], .int p.2)

/-- the script: a list that is locked, or the module's own -/
def SqS (K : PySem.W.Frag) (B : Addr → Prop) (H : Hp) (a : Addr) (ns : List Int) : Prop := (Rd H a (.lst (ns.map V.int)) ∧ ¬ B a) ∨ SqL K (fun _ => none) a (ns.map V.int)
mutual
inductive Rp (K : PySem.W.Frag) (B : Addr → Prop) (H : Hp) : D → V → Prop
  | non : Rp K B H .non .non
  | bl (b : Bool) : Rp K B H (.bl b) (.bl b)
  | int (i : Int) : Rp K B H (.int i) (.int i)
  | str (s : Str) : Rp K B H (.str s) (.str s)
  | lst {a : Addr} {vs : List V} {ds : List D} : H a = some (.lst vs) → ¬ B a → RpL K B H ds vs → Rp K B H (.lst ds) (.ref a)
  | tup {a : Addr} {vs : List V} {ds : List D} : H a = some (.tup vs) → ¬ B a → RpL K B H ds vs → Rp K B H (.tup ds) (.ref a)
  | dic {a : Addr} {m : List ((Int × Int) × Int)} : H a = some (.dT (encD m)) → ¬ B a → Rp K B H (.dic m) (.ref a)
  | scr {a : Addr} {ns : List Int} : SqS K B H a ns → Rp K B H (.scr ns) (.ref a)
  | ktp {a : Addr} {ns : List Int} {o : Obj} : H a = some (.frz o (.tup (ns.map V.int))) → o.dict = none → ¬ B a → Rp K B H (.ktup ns) (.ref a)
inductive RpL (K : PySem.W.Frag) (B : Addr → Prop) (H : Hp) : List D → List V → Prop
  | nil : RpL K B H [] []
  | cons {d : D} {ds : List D} {v : V} {vs : List V} : Rp K B H d v → RpL K B H ds vs → RpL K B H (d :: ds) (v :: vs)
end

/-- all objects outside B stand as they did -/
def ExB (B : Addr → Prop) (H H' : Hp) : Prop := ∀ a o, ¬ B a → H a = some o → H' a = some o
def Ex (H H' : Hp) : Prop := ∀ a o, H a = some o → H' a = some o
def Dom (B : Addr → Prop) (H : Hp) : Prop := ∀ a, B a → ∃ o, H a = some o
theorem Ex.refl (H : Hp) : Ex H H := fun _ _ h => h
theorem Ex.trans {H H1 H2 : Hp} (a : Ex H H1) (b : Ex H1 H2) : Ex H H2 := fun x o h => b x o (a x o h)
theorem Ex.toB {B : Addr → Prop} {H H' : Hp} (e : Ex H H') : ExB B H H' := fun a o _ h => e a o h
theorem ExB.refl {B : Addr → Prop} (H : Hp) : ExB B H H := fun _ _ _ h => h
theorem ExB.trans {B : Addr → Prop} {H H1 H2 : Hp} (a : ExB B H H1) (b : ExB B H1 H2) : ExB B H H2 := fun x o n h => b x o n (a x o n h)
theorem Ex.new {H : Hp} {p : Addr} {o : HO} (h : H p = none) : Ex H (upd H p o) := fun a u e => by
  rw [upd_ne (ne_of_none e h)]
  exact e
theorem Dom.mono {B : Addr → Prop} {H H' : Hp} (d : Dom B H) (e : Ex H H') : Dom B H' := fun a b => let ⟨o, h⟩ := d a b; ⟨o, e a o h⟩
theorem Dom.fresh {B : Addr → Prop} {H : Hp} {p : Addr} (d : Dom B H) (h : H p = none) : ¬ B p := fun b => by
  obtain ⟨o, e⟩ := d p b
  rw [h] at e
  cases e
theorem Ex.fresh {H H' : Hp} {p : Addr} (e : Ex H H') (h : H' p = none) : H p = none := by
  cases h1 : H p with
  | none => rfl
  | some o =>
    rw [e p o h1] at h
    cases h

section
variable {K : PySem.W.Frag} {B B' : Addr → Prop} {H H' : Hp}
theorem off_of {a : Addr} {o : HO} (hb : ∀ a, B' a → B a ∨ H a = none) (n : ¬ B a) (h : H a = some o) : ¬ B' a := fun q => by
  rcases hb a q with z | z
  · exact n z
  · rw [z] at h
    cases h
theorem SqS.mono {a : Addr} {ns : List Int} (e : ExB B H H') (hb : ∀ a, B' a → B a ∨ H a = none) (h : SqS K B H a ns) : SqS K B' H' a ns := by
  rcases h with ⟨h | ⟨o, h⟩, n⟩ | h
  · exact .inl ⟨.inl (e _ _ n h), off_of hb n h⟩
  · exact .inl ⟨.inr ⟨o, e _ _ n h⟩, off_of hb n h⟩
  · exact .inr h
theorem SqS.sq {a : Addr} {ns : List Int} (h : SqS K B H a ns) : SqL K H a (ns.map V.int) := by
  rcases h with ⟨h, n⟩ | h
  · exact .inl h
  · rcases h with (h | ⟨o, h⟩) | h
    · cases h
    · cases h
    · exact .inr h
theorem SqS.of {a : Addr} {ns : List Int} (h : SqL K H a (ns.map V.int)) (n : ¬ B a) : SqS K B H a ns := by
  rcases h with h | h
  · exact .inl ⟨h, n⟩
  · exact .inr (.inr h)
mutual
theorem Rp.mono (e : ExB B H H') (hb : ∀ a, B' a → B a ∨ H a = none) : ∀ {d : D} {v : V}, Rp K B H d v → Rp K B' H' d v
  | _, _, .non => .non
  | _, _, .bl b => .bl b
  | _, _, .int i => .int i
  | _, _, .str s => .str s
  | _, _, .lst h n r => .lst (e _ _ n h) (off_of hb n h) (RpL.mono e hb r)
  | _, _, .tup h n r => .tup (e _ _ n h) (off_of hb n h) (RpL.mono e hb r)
  | _, _, .dic h n => .dic (e _ _ n h) (off_of hb n h)
  | _, _, .scr h => .scr (h.mono e hb)
  | _, _, .ktp h z n => .ktp (e _ _ n h) z (off_of hb n h)
theorem RpL.mono (e : ExB B H H') (hb : ∀ a, B' a → B a ∨ H a = none) : ∀ {ds : List D} {vs : List V}, RpL K B H ds vs → RpL K B' H' ds vs
  | _, _, .nil => .nil
  | _, _, .cons r t => .cons (Rp.mono e hb r) (RpL.mono e hb t)
end
theorem Rp.ex {d : D} {v : V} (r : Rp K B H d v) (e : Ex H H') : Rp K B H' d v := r.mono e.toB fun _ q => .inl q
theorem RpL.ex {ds : List D} {vs : List V} (r : RpL K B H ds vs) (e : Ex H H') : RpL K B H' ds vs := r.mono e.toB fun _ q => .inl q
theorem RpL.length : ∀ {ds : List D} {vs : List V}, RpL K B H ds vs → ds.length = vs.length
  | _, _, .nil => rfl
  | _, _, .cons _ t => congrArg (· + 1) t.length
theorem RpL.append : ∀ {ds es : List D} {vs us : List V}, RpL K B H ds vs → RpL K B H es us → RpL K B H (ds ++ es) (vs ++ us)
  | _, _, _, _, .nil, s => s
  | _, _, _, _, .cons r t, s => .cons r (t.append s)
theorem RpL.get : ∀ {ds : List D} {vs : List V} {i : Nat} {d : D}, RpL K B H ds vs → ds[i]? = some d → ∃ v, vs[i]? = some v ∧ Rp K B H d v
  | _, _, _, _, .nil, h => by simp at h
  | _, _, 0, _, .cons r _, h => by
    simp at h
    subst h
    exact ⟨_, rfl, r⟩
  | _, _, i + 1, d, .cons _ t, h => by
    obtain ⟨v, h1, h2⟩ := RpL.get (i := i) (d := d) t (by simpa using h)
    exact ⟨v, by simpa using h1, h2⟩
theorem RpL.get' : ∀ {ds : List D} {vs : List V} {i : Nat} {v : V}, RpL K B H ds vs → vs[i]? = some v → ∃ d, ds[i]? = some d ∧ Rp K B H d v
  | _, _, _, _, .nil, h => by simp at h
  | _, _, 0, _, .cons r _, h => by
    simp at h
    subst h
    exact ⟨_, rfl, r⟩
  | _, _, i + 1, v, .cons _ t, h => by
    obtain ⟨d, h1, h2⟩ := RpL.get' (i := i) (v := v) t (by simpa using h)
    exact ⟨d, by simpa using h1, h2⟩
theorem RpL.take : ∀ {ds : List D} {vs : List V} (n : Nat), RpL K B H ds vs → RpL K B H (ds.take n) (vs.take n)
  | _, _, 0, _ => .nil
  | _, _, _ + 1, .nil => .nil
  | _, _, n + 1, .cons r t => .cons r (RpL.take n t)
theorem RpL.drop : ∀ {ds : List D} {vs : List V} (n : Nat), RpL K B H ds vs → RpL K B H (ds.drop n) (vs.drop n)
  | _, _, 0, r => r
  | _, _, _ + 1, .nil => .nil
  | _, _, n + 1, .cons _ t => RpL.drop n t
theorem RpL.set {d : D} {v : V} (r : Rp K B H d v) : ∀ {ds : List D} {vs : List V} (i : Nat), RpL K B H ds vs → RpL K B H (ds.set i d) (vs.set i v)
  | _, _, _, .nil => .nil
  | _, _, 0, .cons _ t => .cons r t
  | _, _, i + 1, .cons q t => .cons q (RpL.set r i t)
theorem RpL.reverse {ds : List D} {vs : List V} (h : RpL K B H ds vs) : RpL K B H ds.reverse vs.reverse := by
  induction ds generalizing vs with
  | nil => cases h; exact .nil
  | cons d ds ih =>
    cases h with
    | cons r t =>
      rw [List.reverse_cons, List.reverse_cons]
      exact (ih t).append (.cons r .nil)
theorem RpL.ints : ∀ ns : List Int, RpL K B H (ns.map D.int) (ns.map V.int)
  | [] => .nil
  | n :: r => .cons (.int n) (RpL.ints r)
/-- no object of its own -/
def scalD : D → Bool
  | .non => true | .bl _ => true | .int _ => true | .str _ => true | _ => false
theorem Rp.scal {d : D} {v : V} (h : scalD d = true) (r : Rp K B H d v) : Rp K B' H' d v := by
  cases r with
  | non => exact .non
  | bl b => exact .bl b
  | int i => exact .int i
  | str s => exact .str s
  | lst _ _ _ => cases h
  | tup _ _ _ => cases h
  | dic _ _ => cases h
  | scr _ => cases h
  | ktp _ _ _ => cases h
end

/-! ### as data of the library's -/
mutual
def D.py : D → PyData
  | .non => .none | .bl b => .bool b | .int i => .int i | .str s => .str s
  | .lst xs => .list (D.pys xs) | .tup xs => .tuple (D.pys xs) | .dic _ => .dict [] | .scr _ => .dict [] | .ktup _ => .dict []
def D.pys : List D → List PyData
  | [] => []
  | x :: xs => x.py :: D.pys xs
end
theorem pys_map : ∀ xs : List D, D.pys xs = xs.map D.py
  | [] => rfl
  | x :: xs => by rw [D.pys, pys_map xs]; rfl
section
variable {K : PySem.W.Frag} {B : Addr → Prop} {H : Hp}
mutual
theorem Rp.dp : ∀ {d : D} {v : V}, Rp K B H d v → d.py.canLay0 = true → Dp K H v d.py
  | _, _, .non, _ => .non
  | _, _, .bl b, _ => .bl b
  | _, _, .int i, _ => .int i
  | _, _, .str s, _ => .str s
  | _, _, .lst h _ r, c => .lst (SqL.of h) (RpL.dp r (by simpa [D.py, PyData.canLay0] using c))
  | _, _, .tup h _ r, c => .tup (SqT.of h) (RpL.dp r (by simpa [D.py, PyData.canLay0] using c))
  | _, _, .dic _ _, c => by simp [D.py, PyData.canLay0] at c
  | _, _, .scr _, c => by simp [D.py, PyData.canLay0] at c
  | _, _, .ktp _ _ _, c => by simp [D.py, PyData.canLay0] at c
theorem RpL.dp : ∀ {ds : List D} {vs : List V}, RpL K B H ds vs → PyData.canLayAll0 (D.pys ds) = true → DpAll K H vs (D.pys ds)
  | _, _, .nil, _ => .nil
  | _, _, .cons r t, c => by
    rw [D.pys, PyData.canLayAll0, Bool.and_eq_true] at c
    exact .cons (Rp.dp r c.1) (RpL.dp t c.2)
end
end
end DL
/-! DL2: operators, built-ins, subscripts by data. -/
namespace DL
open PySem PySem.Spec PyProof.Rows L2

/-- a two-place operation by data -/
def OpD (K : PySem.W.Frag) (r : R2) (g : D → D → Option D) : Prop :=
  ∀ (B : Addr → Prop) (H : Hp) (v u : V) (x y z : D) (Q : VK), Dom B H → Rp K B H x v → Rp K B H y u → g x y = some z → (∀ w H', Ex H H' → Rp K B H' z w → Q w H') → r v u H Q
/-- a built-in's call by data -/
def CallD (K : PySem.W.Frag) (r : List V → Hp → VK → Prop) (g : List D → Option D) : Prop :=
  ∀ (B : Addr → Prop) (H : Hp) (vs : List V) (xs : List D) (z : D) (Q : VK), Dom B H → RpL K B H xs vs → g xs = some z → (∀ w H', Ex H H' → Rp K B H' z w → Q w H') → r vs H Q

def lim : Nat := 100000
theorem lim_ok {n : Nat} (h : n ≤ lim) : n ≤ sizeLine := Nat.le_trans h (by decide)
theorem lim_lt {n : Nat} (h : n ≤ lim) : n < sizeLine := Nat.lt_of_le_of_lt h (by decide)

/-! ### + - * // % ** -/
def addD : D → D → Option D
  | .int i, .int j => some (.int (i + j))
  | .lst xs, .lst ys => if xs.length + ys.length ≤ lim then some (.lst (xs ++ ys)) else none
  | .tup xs, .tup ys => if xs.length + ys.length ≤ lim then some (.tup (xs ++ ys)) else none
  | .str x, .str y => if x.length + y.length ≤ lim then some (.str (x ++ y)) else none
  | _, _ => none
def rAddD (K : PySem.W.Frag) : R2 := fun x y H Q => rI0 (fun i j => .int (i + j)) x y H Q ∨ rCat x y H Q ∨ rCatA K x y H Q ∨ (∃ i j, x = .str i ∧ y = .str j ∧ i.length + j.length ≤ sizeLine ∧ Q (.str (i ++ j)) H)
theorem op_addD {X : Cx} : OpR X (binaryOp .Add) (rAddD X.K) := OpR.or op_add (OpR.or op_cat (OpR.or op_catA op_add_str))
theorem opd_add {K : PySem.W.Frag} : OpD K (rAddD K) addD := by
  intro B H v u x y z Q dm rx ry h q
  cases rx with
  | int i =>
    cases ry with
    | int j =>
      cases h
      exact .inl ⟨i, j, rfl, rfl, q _ _ (Ex.refl H) (.int _)⟩
    | _ => cases h
  | str i =>
    cases ry with
    | str j =>
      simp only [addD] at h
      split at h
      · cases h
        exact .inr (.inr (.inr ⟨i, j, rfl, rfl, lim_ok (by assumption), q _ _ (Ex.refl H) (.str _)⟩))
      · cases h
    | _ => cases h
  | @lst a vs ds h1 n1 r1 =>
    cases ry with
    | @lst b us es h2 n2 r2 =>
      simp only [addD] at h
      split at h
      · cases h
        rename_i hl
        have l1 := r1.length
        have l2 := r2.length
        refine .inr (.inl ⟨a, b, vs, us, rfl, rfl, h1, h2, lim_ok (by omega), fun p np => q _ _ (Ex.new np) ?_⟩)
        exact .lst upd_same (dm.fresh np) ((r1.append r2).ex (Ex.new np))
      · cases h
    | _ => cases h
  | @tup a vs ds h1 n1 r1 =>
    cases ry with
    | @tup b us es h2 n2 r2 =>
      simp only [addD] at h
      split at h
      · cases h
        rename_i hl
        have l1 := r1.length
        have l2 := r2.length
        refine .inr (.inr (.inl ⟨a, b, vs, us, rfl, rfl, .of h1, .of h2, lim_ok (by omega), fun e => ?_, fun _ e => ?_, fun _ _ p np => q _ _ (Ex.new np) ?_⟩))
        · subst e
          cases r1
          exact q _ _ (Ex.refl H) (.tup h2 n2 r2)
        · subst e
          cases r2
          rw [List.append_nil] at q
          exact q _ _ (Ex.refl H) (.tup h1 n1 r1)
        · exact .tup upd_same (dm.fresh np) ((r1.append r2).ex (Ex.new np))
      · cases h
    | _ => cases h
  | _ => cases h

def subD : D → D → Option D
  | .int i, .int j => some (.int (i - j))
  | _, _ => none
theorem opd_sub {K : PySem.W.Frag} : OpD K (rI0 fun i j => .int (i - j)) subD := by
  intro B H v u x y z Q dm rx ry h q
  cases rx <;> cases ry <;> first | (cases h; done) | skip
  cases h
  exact ⟨_, _, rfl, rfl, q _ _ (Ex.refl H) (.int _)⟩
/-- below 2^64 -/
def mid (i : Int) : Bool := decide (-(2 ^ 64) < i) && decide (i < 2 ^ 64)
def mulD : D → D → Option D
  | .int i, .int j => if mid i || mid j then some (.int (i * j)) else none
  | .tup xs, .int k => if decide (xs ≠ []) && (decide (2 ≤ k) && (decide (k ≤ 1000) && decide (xs.length ≤ 1000))) then some (.tup (List.replicate k.toNat xs).flatten) else none
  | _, _ => none
theorem opd_mulI {K : PySem.W.Frag} : OpD K (rI CMul fun i j => .int (i * j)) (fun x y => match x, y with | .int i, .int j => if mid i || mid j then some (.int (i * j)) else none | _, _ => none) := by
  intro B H v u x y z Q dm rx ry h q
  cases rx <;> cases ry <;> first | (cases h; done) | skip
  simp only at h
  split at h
  · rename_i hm
    cases h
    refine ⟨_, _, rfl, rfl, ?_, q _ _ (Ex.refl H) (.int _)⟩
    rw [Bool.or_eq_true] at hm
    unfold mid at hm
    simp only [Bool.and_eq_true, decide_eq_true_eq] at hm
    exact hm
  · cases h
def rMulD (K : PySem.W.Frag) : R2 := fun x y H Q => rI CMul (fun i j => .int (i * j)) x y H Q ∨ rRepT K x y H Q
theorem op_mulD {X : Cx} : OpR X (binaryOp .Mult) (rMulD X.K) := OpR.or op_mul op_repT
theorem rep_rp {K : PySem.W.Frag} {B : Addr → Prop} {H : Hp} {ds : List D} {vs : List V} (r : RpL K B H ds vs) : ∀ n : Nat, RpL K B H (List.replicate n ds).flatten (List.replicate n vs).flatten
  | 0 => .nil
  | n + 1 => by
    rw [List.replicate_succ, List.replicate_succ, List.flatten_cons, List.flatten_cons]
    exact r.append (rep_rp r n)
theorem opd_mul {K : PySem.W.Frag} : OpD K (rMulD K) mulD := by
  intro B H v u x y z Q dm rx ry h q
  cases ry with
  | int j =>
    cases rx with
    | int i => exact .inl (opd_mulI B H _ _ (.int i) (.int j) z Q dm (.int i) (.int j) h q)
    | @tup a vs ds h1 n1 r1 =>
      simp only [mulD] at h
      split at h
      · rename_i c
        simp only [Bool.and_eq_true, decide_eq_true_eq] at c
        cases h
        refine .inr ⟨a, j, vs, rfl, rfl, .of h1, fun e => ?_, c.2.1, c.2.2.1, by rw [← r1.length]; exact c.2.2.2, fun p np => q _ _ (Ex.new np) (.tup upd_same (dm.fresh np) ((rep_rp r1 _).ex (Ex.new np)))⟩
        subst e
        cases r1
        exact c.1 rfl
      · cases h
    | _ => cases h
  | _ => cases rx <;> cases h
def small30 (j : Int) : Bool := decide (j ≠ 0) && decide (j.natAbs < 1073741824)
def fdivD : D → D → Option D
  | .int i, .int j => if small30 j then some (.int (i.fdiv j)) else none
  | _, _ => none
theorem opd_fdiv {K : PySem.W.Frag} : OpD K (rI CDivN fun i j => .int (i.fdiv j)) fdivD := by
  intro B H v u x y z Q dm rx ry h q
  cases rx <;> cases ry <;> first | (cases h; done) | skip
  simp only [fdivD] at h
  split at h
  · rename_i hm
    cases h
    refine ⟨_, _, rfl, rfl, ?_, q _ _ (Ex.refl H) (.int _)⟩
    unfold small30 at hm
    simp only [Bool.and_eq_true, decide_eq_true_eq] at hm
    exact hm
  · cases h
def modD : D → D → Option D
  | .int i, .int j => if decide (j ≠ 0) then some (.int (i.fmod j)) else none
  | _, _ => none
theorem opd_mod {K : PySem.W.Frag} : OpD K (rI (fun _ j => j ≠ 0) fun i j => .int (i.fmod j)) modD := by
  intro B H v u x y z Q dm rx ry h q
  cases rx <;> cases ry <;> first | (cases h; done) | skip
  simp only [modD] at h
  split at h
  · rename_i hm
    cases h
    exact ⟨_, _, rfl, rfl, of_decide_eq_true hm, q _ _ (Ex.refl H) (.int _)⟩
  · cases h
def powD : D → D → Option D
  | .int i, .int j => if decide (0 ≤ j) && (decide (j ≤ 1000) && decide (i.natAbs < 2 ^ 64)) then some (.int (i ^ j.toNat)) else none
  | _, _ => none
theorem opd_pow {K : PySem.W.Frag} : OpD K (rI CPow fun i j => .int (i ^ j.toNat)) powD := by
  intro B H v u x y z Q dm rx ry h q
  cases rx <;> cases ry <;> first | (cases h; done) | skip
  simp only [powD] at h
  split at h
  · rename_i hm
    cases h
    simp only [Bool.and_eq_true, decide_eq_true_eq] at hm
    exact ⟨_, _, rfl, rfl, ⟨hm.1, by omega, hm.2.2⟩, q _ _ (Ex.refl H) (.int _)⟩
  · cases h

/-! ### comparisons -/
def okD (x : D) : Bool := SeqAt.shaped x.py
def eqD (x y : D) : Option D := if okD x && okD y then some (.bl (PyData.eqv x.py y.py)) else none
def neD (x y : D) : Option D := if okD x && okD y then some (.bl (!PyData.eqv x.py y.py)) else none
theorem opd_eq {K : PySem.W.Frag} : OpD K (rEqD K) eqD := by
  intro B H v u x y z Q dm rx ry h q
  unfold eqD okD at h
  split at h
  · rename_i c
    cases h
    rw [Bool.and_eq_true] at c
    exact ⟨_, _, rx.dp (SeqAt.canLay_of_shaped c.1), ry.dp (SeqAt.canLay_of_shaped c.2), c.1, c.2, q _ _ (Ex.refl H) (.bl _)⟩
  · cases h
theorem opd_ne {K : PySem.W.Frag} : OpD K (rNeD K) neD := by
  intro B H v u x y z Q dm rx ry h q
  unfold neD okD at h
  split at h
  · rename_i c
    cases h
    rw [Bool.and_eq_true] at c
    exact ⟨_, _, rx.dp (SeqAt.canLay_of_shaped c.1), ry.dp (SeqAt.canLay_of_shaped c.2), c.1, c.2, q _ _ (Ex.refl H) (.bl _)⟩
  · cases h
def ltD : D → D → Option D
  | .int i, .int j => some (.bl (decide (i < j)))
  | _, _ => none
def leD : D → D → Option D
  | .int i, .int j => some (.bl (decide (i ≤ j)))
  | _, _ => none
def geD : D → D → Option D
  | .int i, .int j => some (.bl (decide (j ≤ i)))
  | _, _ => none
def gtD : D → D → Option D
  | .int i, .int j => some (.bl (decide (j < i)))
  | _, _ => none
theorem opd_cmpI {K : PySem.W.Frag} {p : Int → Int → Bool} : OpD K (rI0 fun i j => .bl (p i j)) (fun x y => match x, y with | .int i, .int j => some (.bl (p i j)) | _, _ => none) := by
  intro B H v u x y z Q dm rx ry h q
  cases rx <;> cases ry <;> first | (cases h; done) | skip
  cases h
  exact ⟨_, _, rfl, rfl, q _ _ (Ex.refl H) (.bl _)⟩
theorem opd_lt {K : PySem.W.Frag} : OpD K (rI0 fun i j => .bl (decide (i < j))) ltD := by
  intro B H v u x y z Q dm rx ry h q
  exact opd_cmpI (p := fun i j => decide (i < j)) B H v u x y z Q dm rx ry (by cases x <;> cases y <;> exact h) q
theorem opd_le {K : PySem.W.Frag} : OpD K (rI0 fun i j => .bl (decide (i ≤ j))) leD := by
  intro B H v u x y z Q dm rx ry h q
  exact opd_cmpI (p := fun i j => decide (i ≤ j)) B H v u x y z Q dm rx ry (by cases x <;> cases y <;> exact h) q
theorem opd_gt {K : PySem.W.Frag} : OpD K (rI0 fun i j => .bl (decide (j < i))) gtD := by
  intro B H v u x y z Q dm rx ry h q
  exact opd_cmpI (p := fun i j => decide (j < i)) B H v u x y z Q dm rx ry (by cases x <;> cases y <;> exact h) q
theorem opd_ge {K : PySem.W.Frag} : OpD K (rI0 fun i j => .bl (decide (j ≤ i))) geD := by
  intro B H v u x y z Q dm rx ry h q
  exact opd_cmpI (p := fun i j => decide (j ≤ i)) B H v u x y z Q dm rx ry (by cases x <;> cases y <;> exact h) q
/-- is: with None, True, False on the right -/
def isNonD : D → Bool
  | .non => true
  | _ => false
def isD : D → D → Option D
  | x, .non => some (.bl (isNonD x))
  | .bl a, .bl b => some (.bl (decide (a = b)))
  | _, _ => none
def isNotD : D → D → Option D
  | x, .non => some (.bl (!isNonD x))
  | .bl a, .bl b => some (.bl (!decide (a = b)))
  | _, _ => none
theorem isNon_of {K : PySem.W.Frag} {B : Addr → Prop} {H : Hp} {x : D} {v : V} (r : Rp K B H x v) : decide (v = V.non) = isNonD x := by
  cases r <;> rfl
def rIsD : R2 := fun x y H Q => (y = .non ∧ Q (.bl (decide (x = .non))) H) ∨ rIsB x y H Q
def rIsNotD : R2 := fun x y H Q => (y = .non ∧ Q (.bl (!decide (x = .non))) H) ∨ rNotB x y H Q
theorem op_isD {X : Cx} : OpR X (compareOp .Is) rIsD := OpR.or op_isN op_isBl
theorem op_isNotD {X : Cx} : OpR X (compareOp .IsNot) rIsNotD := OpR.or op_notN op_notBl
theorem opd_is {K : PySem.W.Frag} : OpD K rIsD isD := by
  intro B H v u x y z Q dm rx ry h q
  cases ry with
  | non =>
    have e : isD x .non = some (.bl (isNonD x)) := by cases x <;> rfl
    rw [e] at h
    cases h
    refine .inl ⟨rfl, ?_⟩
    rw [isNon_of rx]
    exact q _ _ (Ex.refl H) (.bl _)
  | bl b =>
    cases rx with
    | bl a =>
      cases h
      exact .inr ⟨a, b, rfl, rfl, q _ _ (Ex.refl H) (.bl _)⟩
    | _ => cases h
  | _ => cases rx <;> cases h
theorem opd_isNot {K : PySem.W.Frag} : OpD K rIsNotD isNotD := by
  intro B H v u x y z Q dm rx ry h q
  cases ry with
  | non =>
    have e : isNotD x .non = some (.bl (!isNonD x)) := by cases x <;> rfl
    rw [e] at h
    cases h
    refine .inl ⟨rfl, ?_⟩
    rw [isNon_of rx]
    exact q _ _ (Ex.refl H) (.bl _)
  | bl b =>
    cases rx with
    | bl a =>
      cases h
      exact .inr ⟨a, b, rfl, rfl, q _ _ (Ex.refl H) (.bl _)⟩
    | _ => cases h
  | _ => cases rx <;> cases h
/-- in: a list, a tuple of data -/
def inL (x : D) (ys : List D) : Bool := ys.any fun z => PyData.eqv z.py x.py
def inD (x : D) : D → Option D
  | .lst ys => if okD x && okD (.lst ys) then some (.bl (inL x ys)) else none
  | .tup ys => if okD x && okD (.tup ys) then some (.bl (inL x ys)) else none
  | _ => none
def ninD (x : D) : D → Option D
  | .lst ys => if okD x && okD (.lst ys) then some (.bl (!inL x ys)) else none
  | .tup ys => if okD x && okD (.tup ys) then some (.bl (!inL x ys)) else none
  | _ => none
def rInT (K : PySem.W.Frag) : R2 := fun x y H Q => ∃ d ds, Dp K H x d ∧ Dp K H y (.tuple ds) ∧ SeqAt.shaped d = true ∧ SeqAt.shaped (.tuple ds) = true ∧ Q (.bl (ds.any fun z => PyData.eqv z d)) H
def rNotInT (K : PySem.W.Frag) : R2 := fun x y H Q => ∃ d ds, Dp K H x d ∧ Dp K H y (.tuple ds) ∧ SeqAt.shaped d = true ∧ SeqAt.shaped (.tuple ds) = true ∧ Q (.bl (!ds.any fun z => PyData.eqv z d)) H
section
variable {X : Cx}
theorem op_inT (hu : X.A.units + 65 < cLine) : OpR X (compareOp .In) (rInT X.K) := by
  intro pins s σ H x y v u Q I rx ry h
  obtain ⟨d, ds, hd, he, sd, se, q⟩ := h
  obtain ⟨as, r1⟩ := Dp.reads I d x v hd rx
  obtain ⟨bs, r2⟩ := Dp.reads I (.tuple ds) y u he ry
  exact SeqAt.in_tuple_reads r2 r1 (SeqAt.canLay_of_shaped se) (SeqAt.canLay_of_shaped sd) (room_in_shaped sd hu) ⟨.bl _, H, I, rfl, q⟩
theorem op_notInT (hu : X.A.units + 65 < cLine) : OpR X (compareOp .NotIn) (rNotInT X.K) := by
  intro pins s σ H x y v u Q I rx ry h
  obtain ⟨d, ds, hd, he, sd, se, q⟩ := h
  obtain ⟨as, r1⟩ := Dp.reads I d x v hd rx
  obtain ⟨bs, r2⟩ := Dp.reads I (.tuple ds) y u he ry
  exact SeqAt.notIn_tuple_reads r2 r1 (SeqAt.canLay_of_shaped se) (SeqAt.canLay_of_shaped sd) (room_in_shaped sd hu) ⟨.bl _, H, I, rfl, q⟩
end
def rInD2 (K : PySem.W.Frag) : R2 := fun x y H Q => rInD K x y H Q ∨ rInT K x y H Q
def rNotInD2 (K : PySem.W.Frag) : R2 := fun x y H Q => rNotInD K x y H Q ∨ rNotInT K x y H Q
theorem op_inD2 {X : Cx} (hu : X.A.units + 65 < cLine) : OpR X (compareOp .In) (rInD2 X.K) := OpR.or (op_inD hu) (op_inT hu)
theorem op_notInD2 {X : Cx} (hu : X.A.units + 65 < cLine) : OpR X (compareOp .NotIn) (rNotInD2 X.K) := OpR.or (op_notInD hu) (op_notInT hu)
theorem any_py (x : D) (ys : List D) : ((D.pys ys).any fun z => PyData.eqv z x.py) = inL x ys := by
  rw [pys_map, List.any_map]
  rfl
theorem opd_in {K : PySem.W.Frag} : OpD K (rInD2 K) inD := by
  intro B H v u x y z Q dm rx ry h q
  cases y <;> first | (cases h; done) | skip
  · simp only [inD] at h
    split at h
    · rename_i c
      cases h
      unfold okD at c
      rw [Bool.and_eq_true] at c
      refine .inl ⟨_, _, rx.dp (SeqAt.canLay_of_shaped c.1), ry.dp (SeqAt.canLay_of_shaped c.2), c.1, c.2, ?_⟩
      rw [any_py]
      exact q _ _ (Ex.refl H) (.bl _)
    · cases h
  · simp only [inD] at h
    split at h
    · rename_i c
      cases h
      unfold okD at c
      rw [Bool.and_eq_true] at c
      refine .inr ⟨_, _, rx.dp (SeqAt.canLay_of_shaped c.1), ry.dp (SeqAt.canLay_of_shaped c.2), c.1, c.2, ?_⟩
      rw [any_py]
      exact q _ _ (Ex.refl H) (.bl _)
    · cases h
theorem opd_nin {K : PySem.W.Frag} : OpD K (rNotInD2 K) ninD := by
  intro B H v u x y z Q dm rx ry h q
  cases y <;> first | (cases h; done) | skip
  · simp only [ninD] at h
    split at h
    · rename_i c
      cases h
      unfold okD at c
      rw [Bool.and_eq_true] at c
      refine .inl ⟨_, _, rx.dp (SeqAt.canLay_of_shaped c.1), ry.dp (SeqAt.canLay_of_shaped c.2), c.1, c.2, ?_⟩
      rw [any_py]
      exact q _ _ (Ex.refl H) (.bl _)
    · cases h
  · simp only [ninD] at h
    split at h
    · rename_i c
      cases h
      unfold okD at c
      rw [Bool.and_eq_true] at c
      refine .inr ⟨_, _, rx.dp (SeqAt.canLay_of_shaped c.1), ry.dp (SeqAt.canLay_of_shaped c.2), c.1, c.2, ?_⟩
      rw [any_py]
      exact q _ _ (Ex.refl H) (.bl _)
    · cases h

/-! ### subscripts -/
def ixD : D → D → Option D
  | .lst xs, .int i => atI xs i
  | .tup xs, .int i => atI xs i
  | .scr ns, .int i => (atI ns i).map D.int
  | .ktup ns, .int i => (atI ns i).map D.int
  | _, _ => none
theorem atI_rp {K : PySem.W.Frag} {B : Addr → Prop} {H : Hp} {ds : List D} {vs : List V} {i : Int} {d : D} (r : RpL K B H ds vs) (h : atI ds i = some d) : ∃ v, atI vs i = some v ∧ Rp K B H d v := by
  unfold atI at h ⊢
  rw [← r.length]
  cases e : ixN ds.length i with
  | none =>
    rw [e] at h
    cases h
  | some j =>
    rw [e] at h
    exact r.get h
theorem opd_ix {K : PySem.W.Frag} : OpD K (rIx K) ixD := by
  intro B H v u x y z Q dm rx ry h q
  cases ry with
  | int i =>
    cases rx with
    | @lst a vs ds h1 n1 r1 =>
      obtain ⟨w, e, r⟩ := atI_rp r1 h
      exact .inl ⟨a, vs, i, w, rfl, rfl, .of h1, e, q _ _ (Ex.refl H) r⟩
    | @tup a vs ds h1 n1 r1 =>
      obtain ⟨w, e, r⟩ := atI_rp r1 h
      exact .inr (.inl ⟨a, vs, i, w, rfl, rfl, .of h1, e, q _ _ (Ex.refl H) r⟩)
    | @scr a ns h0 =>
      have h1 := h0.sq
      simp only [ixD] at h
      cases e : atI ns i with
      | none =>
        rw [e] at h
        cases h
      | some n =>
        rw [e] at h
        cases h
        refine .inl ⟨a, ns.map V.int, i, .int n, rfl, rfl, h1, ?_, q _ _ (Ex.refl H) (.int n)⟩
        unfold atI at e ⊢
        rw [List.length_map]
        cases e2 : ixN ns.length i with
        | none =>
          rw [e2] at e
          cases e
        | some j =>
          rw [e2] at e
          show (ns.map V.int)[j]? = _
          rw [List.getElem?_map]
          show (ns[j]?).map V.int = _
          rw [show ns[j]? = some n from e]
          rfl
    | @ktp a ns o h1 h2 h3 =>
      simp only [ixD] at h
      cases e : atI ns i with
      | none =>
        rw [e] at h
        cases h
      | some n =>
        rw [e] at h
        cases h
        refine .inr (.inl ⟨a, ns.map V.int, i, .int n, rfl, rfl, .inl (.inr ⟨o, h1⟩), ?_, q _ _ (Ex.refl H) (.int n)⟩)
        unfold atI at e ⊢
        rw [List.length_map]
        cases e2 : ixN ns.length i with
        | none =>
          rw [e2] at e
          cases e
        | some j =>
          rw [e2] at e
          show (ns.map V.int)[j]? = _
          rw [List.getElem?_map]
          show (ns[j]?).map V.int = _
          rw [show ns[j]? = some n from e]
          rfl
    | _ => cases h
  | _ => cases rx <;> cases h
/-- a slice's items -/
def cutD (xs : List D) (lo hi : Option Int) : List D := (xs.drop (HT.sIx xs.length 0 lo)).take (HT.sIx xs.length xs.length hi - HT.sIx xs.length 0 lo)
def sliceD (x : D) (lo hi : Option Int) : Option D := match x with
  | .lst xs => some (.lst (cutD xs lo hi))
  | .tup xs => some (.tup (cutD xs lo hi))
  | _ => none
def rSlD (K : PySem.W.Frag) : V → Option Int → Option Int → Hp → VK → Prop := fun x lo hi H Q => rSlL K x lo hi H Q ∨ rSlA K x lo hi H Q
theorem sl_D {X : Cx} : SlR X (rSlD X.K) := SlR.or sl_list sl_tupA
theorem cut_rp {K : PySem.W.Frag} {B : Addr → Prop} {H : Hp} {ds : List D} {vs : List V} (r : RpL K B H ds vs) (lo hi : Option Int) : RpL K B H (cutD ds lo hi) (cutV vs lo hi) := by
  unfold cutD cutV
  rw [← r.length]
  exact (r.drop _).take _
theorem cutD_whole {xs : List D} {lo hi : Option Int} (h : HT.sIx xs.length 0 lo = 0 ∧ HT.sIx xs.length xs.length hi = xs.length) : cutD xs lo hi = xs := by
  unfold cutD
  rw [h.1, h.2]
  show (xs.drop 0).take (xs.length - 0) = xs
  rw [List.drop_zero, Nat.sub_zero, List.take_length]
theorem sld {K : PySem.W.Frag} (B : Addr → Prop) (H : Hp) (v : V) (x z : D) (lo hi : Option Int) (Q : VK) (dm : Dom B H) (rx : Rp K B H x v) (h : sliceD x lo hi = some z) (q : ∀ w H', Ex H H' → Rp K B H' z w → Q w H') : rSlD K v lo hi H Q := by
  cases rx with
  | @lst a vs ds h1 n1 r1 =>
    cases h
    exact .inl ⟨a, vs, rfl, .of h1, fun p np => q _ _ (Ex.new np) (.lst upd_same (dm.fresh np) ((cut_rp r1 lo hi).ex (Ex.new np)))⟩
  | @tup a vs ds h1 n1 r1 =>
    cases h
    refine .inr ⟨a, vs, rfl, .of h1, fun e => ?_, fun _ p np => q _ _ (Ex.new np) (.tup upd_same (dm.fresh np) ((cut_rp r1 lo hi).ex (Ex.new np)))⟩
    rw [← r1.length] at e
    have e2 := cutD_whole e
    refine q _ _ (Ex.refl H) ?_
    rw [e2]
    exact .tup h1 n1 r1
  | _ => cases h

/-! ### built-ins -/
def lenD : List D → Option D
  | [.lst xs] => some (.int xs.length)
  | [.tup xs] => some (.int xs.length)
  | [.scr xs] => some (.int xs.length)
  | [.ktup xs] => some (.int xs.length)
  | [.str x] => if x.length ≤ lim then some (.int x.length) else none
  | _ => none
theorem RpL.one {K : PySem.W.Frag} {B : Addr → Prop} {H : Hp} {x : D} {vs : List V} (r : RpL K B H [x] vs) : ∃ v, vs = [v] ∧ Rp K B H x v := by
  cases r with
  | cons r t =>
    cases t
    exact ⟨_, rfl, r⟩
theorem RpL.two {K : PySem.W.Frag} {B : Addr → Prop} {H : Hp} {x y : D} {vs : List V} (r : RpL K B H [x, y] vs) : ∃ v u, vs = [v, u] ∧ Rp K B H x v ∧ Rp K B H y u := by
  cases r with
  | cons r t =>
    obtain ⟨u, rfl, r2⟩ := t.one
    exact ⟨_, _, rfl, r, r2⟩
theorem RpL.three {K : PySem.W.Frag} {B : Addr → Prop} {H : Hp} {x y z : D} {vs : List V} (r : RpL K B H [x, y, z] vs) : ∃ v u w, vs = [v, u, w] ∧ Rp K B H x v ∧ Rp K B H y u ∧ Rp K B H z w := by
  cases r with
  | cons r t =>
    obtain ⟨u, w, rfl, r2, r3⟩ := t.two
    exact ⟨_, _, _, rfl, r, r2, r3⟩
def rLenD (K : PySem.W.Frag) : List V → Hp → VK → Prop := fun xs H Q => ∃ x n, xs = [x] ∧ LenV K x H n ∧ Q (.int n) H
theorem call_lenD' {X : Cx} : CallR X (.builtin "len") (rLenD X.K) := call_len
theorem cd_len {K : PySem.W.Frag} : CallD K (rLenD K) lenD := by
  intro B H vs xs z Q dm r h q
  obtain ⟨x, rfl⟩ : ∃ x, xs = [x] := by
    match xs, h with
    | [x], _ => exact ⟨x, rfl⟩
    | [], h => cases h
    | _ :: _ :: _, h => simp [lenD] at h
  · obtain ⟨v, rfl, rx⟩ := r.one
    cases rx with
    | @lst a us ds h1 n1 r1 =>
      cases h
      refine ⟨_, _, rfl, .inl ⟨us, .of h1, rfl⟩, ?_⟩
      rw [← r1.length]
      exact q _ _ (Ex.refl H) (.int _)
    | @tup a us ds h1 n1 r1 =>
      cases h
      refine ⟨_, _, rfl, .inr ⟨us, .of h1, rfl⟩, ?_⟩
      rw [← r1.length]
      exact q _ _ (Ex.refl H) (.int _)
    | @scr a ns h0 =>
      have h1 := h0.sq
      cases h
      refine ⟨_, _, rfl, .inl ⟨_, h1, rfl⟩, ?_⟩
      rw [List.length_map]
      exact q _ _ (Ex.refl H) (.int _)
    | @ktp a ns o h1 h2 h3 =>
      cases h
      refine ⟨_, _, rfl, .inr ⟨_, .inl (.inr ⟨o, h1⟩), rfl⟩, ?_⟩
      rw [List.length_map]
      exact q _ _ (Ex.refl H) (.int _)
    | str s =>
      simp only [lenD] at h
      split at h
      · cases h
        exact ⟨_, _, rfl, ⟨lim_ok (by assumption), rfl⟩, q _ _ (Ex.refl H) (.int _)⟩
      · cases h
    | _ => cases h

/-- ints of a list of data -/
def intsD : List D → Option (List Int)
  | [] => some []
  | .int i :: r => (intsD r).map (i :: ·)
  | _ :: _ => none
theorem intsD_rp {K : PySem.W.Frag} {B : Addr → Prop} {H : Hp} : ∀ {ds : List D} {vs : List V} {ns : List Int}, RpL K B H ds vs → intsD ds = some ns → vs = ns.map V.int
  | _, _, _, .nil, h => by
    cases h
    rfl
  | _, _, ns, .cons (d := d) (ds := ds) r t, h => by
    cases r with
    | int i =>
      simp only [intsD] at h
      cases e : intsD ds with
      | none =>
        rw [e] at h
        cases h
      | some ms =>
        rw [e] at h
        cases h
        rw [intsD_rp t e]
        rfl
    | _ => cases h
def maxI : List Int → Option Int
  | [] => none
  | x :: xs => some (xs.foldl max x)
def minI : List Int → Option Int
  | [] => none
  | x :: xs => some (xs.foldl min x)
theorem foldl_max_le : ∀ (xs : List Int) (x : Int), x ≤ xs.foldl max x ∧ (∀ y ∈ xs, y ≤ xs.foldl max x) ∧ (xs.foldl max x = x ∨ xs.foldl max x ∈ xs)
  | [], x => ⟨Int.le_refl _, (fun y h => nomatch h), .inl rfl⟩
  | y :: ys, x => by
    obtain ⟨h1, h2, h3⟩ := foldl_max_le ys (max x y)
    refine ⟨by show x ≤ ys.foldl max (max x y); omega, fun z hz => ?_, ?_⟩
    · show z ≤ ys.foldl max (max x y)
      cases hz with
      | head => omega
      | tail _ hz => exact h2 z hz
    · show ys.foldl max (max x y) = x ∨ ys.foldl max (max x y) ∈ y :: ys
      rcases h3 with h3 | h3
      · rw [h3]
        by_cases c : y ≤ x
        · left; omega
        · right
          rw [show max x y = y by omega]
          exact List.mem_cons_self
      · exact .inr (List.mem_cons_of_mem _ h3)
theorem foldl_min_le : ∀ (xs : List Int) (x : Int), xs.foldl min x ≤ x ∧ (∀ y ∈ xs, xs.foldl min x ≤ y) ∧ (xs.foldl min x = x ∨ xs.foldl min x ∈ xs)
  | [], x => ⟨Int.le_refl _, (fun y h => nomatch h), .inl rfl⟩
  | y :: ys, x => by
    obtain ⟨h1, h2, h3⟩ := foldl_min_le ys (min x y)
    refine ⟨by show ys.foldl min (min x y) ≤ x; omega, fun z hz => ?_, ?_⟩
    · show ys.foldl min (min x y) ≤ z
      cases hz with
      | head => omega
      | tail _ hz => exact h2 z hz
    · show ys.foldl min (min x y) = x ∨ ys.foldl min (min x y) ∈ y :: ys
      rcases h3 with h3 | h3
      · rw [h3]
        by_cases c : x ≤ y
        · left; omega
        · right
          rw [show min x y = y by omega]
          exact List.mem_cons_self
      · exact .inr (List.mem_cons_of_mem _ h3)
theorem maxI_of {ns : List Int} {m : Int} (hm : m ∈ ns) (hle : ∀ y ∈ ns, y ≤ m) : maxI ns = some m := by
  cases ns with
  | nil => cases hm
  | cons x xs =>
    obtain ⟨h1, h2, h3⟩ := foldl_max_le xs x
    refine congrArg some (Int.le_antisymm ?_ ?_)
    · rcases h3 with h3 | h3
      · rw [h3]; exact hle x List.mem_cons_self
      · exact hle _ (List.mem_cons_of_mem _ h3)
    · cases hm with
      | head => exact h1
      | tail _ hm => exact h2 _ hm
theorem minI_of {ns : List Int} {m : Int} (hm : m ∈ ns) (hle : ∀ y ∈ ns, m ≤ y) : minI ns = some m := by
  cases ns with
  | nil => cases hm
  | cons x xs =>
    obtain ⟨h1, h2, h3⟩ := foldl_min_le xs x
    refine congrArg some (Int.le_antisymm ?_ ?_)
    · cases hm with
      | head => exact h1
      | tail _ hm => exact h2 _ hm
    · rcases h3 with h3 | h3
      · rw [h3]; exact hle x List.mem_cons_self
      · exact hle _ (List.mem_cons_of_mem _ h3)
section
variable {prog : Program} {w : World} {A : Around} {E : Value → Shared → Prop} {s : Shared} {l : Addr} {xs : Array (Int × Tok)}
theorem max_intTup {Q : Value → Shared → Prop} (hh : A.handled = none) (hl : s.heap.IsTuple l (intItems xs)) (hne : 0 < xs.size)
    (h : ∀ v h' tk, (intItems xs)[argBest (fun i j => decide (numAt xs i > numAt xs j)) (xs.size - 1)]? = some v → (∀ b o, s.heap.get? b = some o → h'.get? b = some o) → Q v { s with heap := h', toks := tk }) :
    wpAny (model prog w) A (call (.builtin "max") [.ref l]) Q E s := by
  have hlt : l < s.heap.objs.size := by
    obtain ⟨o, e, _⟩ := hl
    exact Heap.lt_size e
  refine call_max_walk (wpAny_pyIter_tuple hl ?_)
  refine ⟨_, _, _, _, _, _, _, rfl, Walks.tuple (A := A.in1) hh _ l (Nat.ne_of_lt hlt) (intItems xs), ⟨⟨_, Heap.get?_push_size _ rfl, rfl, rfl⟩, ?_⟩, ?_, by simpa [intItems] using hne, CmpOf.ints_gt (numAt xs) (fun _ _ => intItems_at), fun v h' tk hP hk => ?_⟩
  · obtain ⟨o, e, q⟩ := hl
    exact ⟨o, Heap.get?_push_of_some _ e, q⟩
  · intro b hb
    have e' : b = s.heap.objs.size ∨ b = l := by simpa using hb
    have hsz := Heap.size_push s.heap { cls := .type "tuple_iterator", data := .fields #[.ref l, .int 0 0] }
    rw [hsz]
    rcases e' with z | z
    · rw [z]
      exact Nat.lt_succ_self _
    · rw [z]
      exact Nat.lt_succ_of_lt hlt
  · refine h v h' tk (by simpa [intItems] using hP) fun b o e => ?_
    refine hk b o (fun z => ?_) (Heap.get?_push_of_some _ e)
    have z' : b = s.heap.objs.size := by simpa using z
    rw [z'] at e
    exact absurd (Heap.lt_size e) (Nat.lt_irrefl _)
end
end DL
namespace DL
open PySem PySem.Spec PyProof.Rows L2
section
variable {prog : Program} {w : World} {A : Around} {E : Value → Shared → Prop} {s : Shared} {l : Addr} {xs : Array (Int × Tok)}
theorem min_intTup {Q : Value → Shared → Prop} (hh : A.handled = none) (hl : s.heap.IsTuple l (intItems xs)) (hne : 0 < xs.size)
    (h : ∀ v h' tk, (intItems xs)[argBest (fun i j => decide (numAt xs i < numAt xs j)) (xs.size - 1)]? = some v → (∀ b o, s.heap.get? b = some o → h'.get? b = some o) → Q v { s with heap := h', toks := tk }) :
    wpAny (model prog w) A (call (.builtin "min") [.ref l]) Q E s := by
  have hlt : l < s.heap.objs.size := by
    obtain ⟨o, e, _⟩ := hl
    exact Heap.lt_size e
  refine call_min_walk (wpAny_pyIter_tuple hl ?_)
  refine ⟨_, _, _, _, _, _, _, rfl, Walks.tuple (A := A.in1) hh _ l (Nat.ne_of_lt hlt) (intItems xs), ⟨⟨_, Heap.get?_push_size _ rfl, rfl, rfl⟩, ?_⟩, ?_, by simpa [intItems] using hne, CmpOf.ints_lt (numAt xs) (fun _ _ => intItems_at), fun v h' tk hP hk => ?_⟩
  · obtain ⟨o, e, q⟩ := hl
    exact ⟨o, Heap.get?_push_of_some _ e, q⟩
  · intro b hb
    have e' : b = s.heap.objs.size ∨ b = l := by simpa using hb
    have hsz := Heap.size_push s.heap { cls := .type "tuple_iterator", data := .fields #[.ref l, .int 0 0] }
    rw [hsz]
    rcases e' with z | z
    · rw [z]
      exact Nat.lt_succ_self _
    · rw [z]
      exact Nat.lt_succ_of_lt hlt
  · refine h v h' tk (by simpa [intItems] using hP) fun b o e => ?_
    refine hk b o (fun z => ?_) (Heap.get?_push_of_some _ e)
    have z' : b = s.heap.objs.size := by simpa using z
    rw [z'] at e
    exact absurd (Heap.lt_size e) (Nat.lt_irrefl _)
theorem maxT_raw {Q : Value → Shared → Prop} {its : List Value} {ns : List Int} (hh : A.handled = none) (hl : s.heap.IsTuple l its.toArray) (hi : IntsAre its ns) (hne : 0 < ns.length)
    (h : ∀ h' tk M t', (∀ b o, s.heap.get? b = some o → h'.get? b = some o) → M ∈ ns → (∀ a, a ∈ ns → a ≤ M) → Q (.int M t') { s with heap := h', toks := tk }) : wpAny (model prog w) A (call (.builtin "max") [.ref l]) Q E s := by
  obtain ⟨xs, e⟩ := hi.allInts.items
  have hn : numsOf (intItems xs).toList = ns := by rw [← e]; exact hi.numsOf
  rw [nums_intItems] at hn
  subst hn
  rw [e] at hl
  have hsz : 0 < xs.size := by simpa using hne
  refine max_intTup hh hl hsz fun v h' tk hv hk => ?_
  obtain ⟨t, rfl⟩ := intItems_at hv
  obtain ⟨h1, h2⟩ := argBest_gt (numAt xs) (xs.size - 1)
  refine h h' tk _ t hk ?_ fun a ha => ?_
  · rw [numAt_eq]; exact PySem.getD_mem (by rw [List.length_map, Array.length_toList]; omega)
  · obtain ⟨j, hj, rfl⟩ := mem_getD ha
    rw [List.length_map, Array.length_toList] at hj
    rw [← numAt_eq]; exact h2 j (by omega)
theorem minT_raw {Q : Value → Shared → Prop} {its : List Value} {ns : List Int} (hh : A.handled = none) (hl : s.heap.IsTuple l its.toArray) (hi : IntsAre its ns) (hne : 0 < ns.length)
    (h : ∀ h' tk M t', (∀ b o, s.heap.get? b = some o → h'.get? b = some o) → M ∈ ns → (∀ a, a ∈ ns → M ≤ a) → Q (.int M t') { s with heap := h', toks := tk }) : wpAny (model prog w) A (call (.builtin "min") [.ref l]) Q E s := by
  obtain ⟨xs, e⟩ := hi.allInts.items
  have hn : numsOf (intItems xs).toList = ns := by rw [← e]; exact hi.numsOf
  rw [nums_intItems] at hn
  subst hn
  rw [e] at hl
  have hsz : 0 < xs.size := by simpa using hne
  refine min_intTup hh hl hsz fun v h' tk hv hk => ?_
  obtain ⟨t, rfl⟩ := intItems_at hv
  obtain ⟨h1, h2⟩ := argBest_lt (numAt xs) (xs.size - 1)
  refine h h' tk _ t hk ?_ fun a ha => ?_
  · rw [numAt_eq]; exact PySem.getD_mem (by rw [List.length_map, Array.length_toList]; omega)
  · obtain ⟨j, hj, rfl⟩ := mem_getD ha
    rw [List.length_map, Array.length_toList] at hj
    rw [← numAt_eq]; exact h2 j (by omega)
end
section
variable {X : Cx}
def rMaxT (K : PySem.W.Frag) : List V → Hp → VK → Prop := fun vs H Q => ∃ (a : Addr) (ns : List Int), vs = [V.ref a] ∧ SqT K H a (ns.map V.int) ∧ 0 < ns.length ∧ ∀ m, m ∈ ns → (∀ y, y ∈ ns → y ≤ m) → Q (.int m) H
def rMinT (K : PySem.W.Frag) : List V → Hp → VK → Prop := fun vs H Q => ∃ (a : Addr) (ns : List Int), vs = [V.ref a] ∧ SqT K H a (ns.map V.int) ∧ 0 < ns.length ∧ ∀ m, m ∈ ns → (∀ y, y ∈ ns → m ≤ y) → Q (.int m) H
theorem cr_maxT (hc : X.calm = true) : CallR X (.builtin "max") (rMaxT X.K) := by
  intro pins s σ H vs us Q I r h
  obtain ⟨a, ns, rfl, hs, hne, q⟩ := h
  obtain ⟨its, rv, hl, _⟩ := I.tuple hs
  rw [Vals.ref1 r]
  exact maxT_raw (I.ok.hd hc) (show s.heap.IsTuple a its.toArray from hl) rv.ints hne fun h' tk m t' hk h1 h2 => ⟨.int _, H, I.kept hk, ⟨_, rfl⟩, q m h1 h2⟩
theorem cr_minT (hc : X.calm = true) : CallR X (.builtin "min") (rMinT X.K) := by
  intro pins s σ H vs us Q I r h
  obtain ⟨a, ns, rfl, hs, hne, q⟩ := h
  obtain ⟨its, rv, hl, _⟩ := I.tuple hs
  rw [Vals.ref1 r]
  exact minT_raw (I.ok.hd hc) (show s.heap.IsTuple a its.toArray from hl) rv.ints hne fun h' tk m t' hk h1 h2 => ⟨.int _, H, I.kept hk, ⟨_, rfl⟩, q m h1 h2⟩
theorem vals3 {x y z : V} {us : List Value} (r : Vals [x, y, z] us) : ∃ u w' u', us = [u, w', u'] ∧ RelV x u ∧ RelV y w' ∧ RelV z u' := by
  cases r with
  | cons r t =>
    obtain ⟨u, w', rfl, r2, r3⟩ := vals2 t
    exact ⟨_, _, _, rfl, r, r2, r3⟩
theorem call_max3 (hc : X.calm = true) : CallR X (.builtin "max") (fun xs H Q => ∃ i j k, xs = [.int i, .int j, .int k] ∧ Q (.int (max (max i j) k)) H) := by
  intro pins s σ H xs us Q I r h
  obtain ⟨i, j, k, rfl, q⟩ := h
  obtain ⟨u, w', u', rfl, ⟨t, rfl⟩, ⟨t', rfl⟩, ⟨t2, rfl⟩⟩ := vals3 r
  refine max_three_ints (I.ok.hd hc) fun h' tk k' => ⟨_, H, I.kept k', ?_, q⟩
  by_cases h1 : j > i
  · rw [if_pos h1]
    by_cases h2 : k > j
    · rw [if_pos h2]; exact ⟨t2, by rw [show max (max i j) k = k by omega]⟩
    · rw [if_neg h2]; exact ⟨t', by rw [show max (max i j) k = j by omega]⟩
  · rw [if_neg h1]
    by_cases h2 : k > i
    · rw [if_pos h2]; exact ⟨t2, by rw [show max (max i j) k = k by omega]⟩
    · rw [if_neg h2]; exact ⟨t, by rw [show max (max i j) k = i by omega]⟩
theorem call_min3 (hc : X.calm = true) : CallR X (.builtin "min") (fun xs H Q => ∃ i j k, xs = [.int i, .int j, .int k] ∧ Q (.int (min (min i j) k)) H) := by
  intro pins s σ H xs us Q I r h
  obtain ⟨i, j, k, rfl, q⟩ := h
  obtain ⟨u, w', u', rfl, ⟨t, rfl⟩, ⟨t', rfl⟩, ⟨t2, rfl⟩⟩ := vals3 r
  refine min_three_ints (I.ok.hd hc) fun h' tk k' => ⟨_, H, I.kept k', ?_, q⟩
  by_cases h1 : j < i
  · rw [if_pos h1]
    by_cases h2 : k < j
    · rw [if_pos h2]; exact ⟨t2, by rw [show min (min i j) k = k by omega]⟩
    · rw [if_neg h2]; exact ⟨t', by rw [show min (min i j) k = j by omega]⟩
  · rw [if_neg h1]
    by_cases h2 : k < i
    · rw [if_pos h2]; exact ⟨t2, by rw [show min (min i j) k = k by omega]⟩
    · rw [if_neg h2]; exact ⟨t, by rw [show min (min i j) k = i by omega]⟩
end
def rMaxD (K : PySem.W.Frag) : List V → Hp → VK → Prop := fun vs H Q => rMax K vs H Q ∨ rMaxT K vs H Q ∨ (∃ i j, vs = [.int i, .int j] ∧ Q (.int (if j > i then j else i)) H) ∨ (∃ i j k, vs = [.int i, .int j, .int k] ∧ Q (.int (max (max i j) k)) H)
def rMinD (K : PySem.W.Frag) : List V → Hp → VK → Prop := fun vs H Q => rMin K vs H Q ∨ rMinT K vs H Q ∨ (∃ i j, vs = [.int i, .int j] ∧ Q (.int (if j < i then j else i)) H) ∨ (∃ i j k, vs = [.int i, .int j, .int k] ∧ Q (.int (min (min i j) k)) H)
theorem cr_maxD {X : Cx} (hc : X.calm = true) : CallR X (.builtin "max") (rMaxD X.K) := CallR.or (cr_max hc) (CallR.or (cr_maxT hc) (CallR.or (call_max2 hc) (call_max3 hc)))
theorem cr_minD {X : Cx} (hc : X.calm = true) : CallR X (.builtin "min") (rMinD X.K) := CallR.or (cr_min hc) (CallR.or (cr_minT hc) (CallR.or (call_min2 hc) (call_min3 hc)))
def maxD : List D → Option D
  | [.lst xs] => ((intsD xs).bind maxI).map D.int
  | [.tup xs] => ((intsD xs).bind maxI).map D.int
  | [.int i, .int j] => some (.int (max i j))
  | [.int i, .int j, .int k] => some (.int (max (max i j) k))
  | _ => none
def minD : List D → Option D
  | [.lst xs] => ((intsD xs).bind minI).map D.int
  | [.tup xs] => ((intsD xs).bind minI).map D.int
  | [.int i, .int j] => some (.int (min i j))
  | [.int i, .int j, .int k] => some (.int (min (min i j) k))
  | _ => none
theorem pos_of_maxI {ns : List Int} {m : Int} (h : maxI ns = some m) : 0 < ns.length := by
  cases ns with
  | nil => cases h
  | cons x xs => exact Nat.succ_pos _
theorem pos_of_minI {ns : List Int} {m : Int} (h : minI ns = some m) : 0 < ns.length := by
  cases ns with
  | nil => cases h
  | cons x xs => exact Nat.succ_pos _
theorem cd_max {K : PySem.W.Frag} : CallD K (rMaxD K) maxD := by
  intro B H vs xs z Q dm r h q
  unfold maxD at h
  split at h
  · rename_i ds
    obtain ⟨v, rfl, rx⟩ := r.one
    cases rx with
    | @lst a us _ h1 n1 r1 =>
      cases e1 : intsD ds with
      | none => rw [e1] at h; cases h
      | some ns =>
        rw [e1] at h
        cases e2 : maxI ns with
        | none => rw [show (some ns).bind maxI = maxI ns from rfl, e2] at h; cases h
        | some m =>
          rw [show (some ns).bind maxI = maxI ns from rfl, e2] at h
          cases h
          refine .inl ⟨a, ns, rfl, ?_, pos_of_maxI e2, fun m' h3 h4 => ?_⟩
          · rw [← intsD_rp r1 e1]
            exact .of h1
          · have e3 := maxI_of h3 h4
            rw [e2] at e3
            cases e3
            exact q _ _ (Ex.refl H) (.int _)
  · rename_i ds
    obtain ⟨v, rfl, rx⟩ := r.one
    cases rx with
    | @tup a us _ h1 n1 r1 =>
      cases e1 : intsD ds with
      | none => rw [e1] at h; cases h
      | some ns =>
        rw [e1] at h
        cases e2 : maxI ns with
        | none => rw [show (some ns).bind maxI = maxI ns from rfl, e2] at h; cases h
        | some m =>
          rw [show (some ns).bind maxI = maxI ns from rfl, e2] at h
          cases h
          refine .inr (.inl ⟨a, ns, rfl, ?_, pos_of_maxI e2, fun m' h3 h4 => ?_⟩)
          · rw [← intsD_rp r1 e1]
            exact .of h1
          · have e3 := maxI_of h3 h4
            rw [e2] at e3
            cases e3
            exact q _ _ (Ex.refl H) (.int _)
  · obtain ⟨v, u, rfl, rx, ry⟩ := r.two
    cases rx
    cases ry
    cases h
    refine .inr (.inr (.inl ⟨_, _, rfl, ?_⟩))
    rename_i i j
    rw [show (if j > i then j else i) = max i j by split <;> omega]
    exact q _ _ (Ex.refl H) (.int _)
  · obtain ⟨v, u, w, rfl, rx, ry, rz⟩ := r.three
    cases rx
    cases ry
    cases rz
    cases h
    exact .inr (.inr (.inr ⟨_, _, _, rfl, q _ _ (Ex.refl H) (.int _)⟩))
  · cases h
theorem cd_min {K : PySem.W.Frag} : CallD K (rMinD K) minD := by
  intro B H vs xs z Q dm r h q
  unfold minD at h
  split at h
  · rename_i ds
    obtain ⟨v, rfl, rx⟩ := r.one
    cases rx with
    | @lst a us _ h1 n1 r1 =>
      cases e1 : intsD ds with
      | none => rw [e1] at h; cases h
      | some ns =>
        rw [e1] at h
        cases e2 : minI ns with
        | none => rw [show (some ns).bind minI = minI ns from rfl, e2] at h; cases h
        | some m =>
          rw [show (some ns).bind minI = minI ns from rfl, e2] at h
          cases h
          refine .inl ⟨a, ns, rfl, ?_, pos_of_minI e2, fun m' h3 h4 => ?_⟩
          · rw [← intsD_rp r1 e1]
            exact .of h1
          · have e3 := minI_of h3 h4
            rw [e2] at e3
            cases e3
            exact q _ _ (Ex.refl H) (.int _)
  · rename_i ds
    obtain ⟨v, rfl, rx⟩ := r.one
    cases rx with
    | @tup a us _ h1 n1 r1 =>
      cases e1 : intsD ds with
      | none => rw [e1] at h; cases h
      | some ns =>
        rw [e1] at h
        cases e2 : minI ns with
        | none => rw [show (some ns).bind minI = minI ns from rfl, e2] at h; cases h
        | some m =>
          rw [show (some ns).bind minI = minI ns from rfl, e2] at h
          cases h
          refine .inr (.inl ⟨a, ns, rfl, ?_, pos_of_minI e2, fun m' h3 h4 => ?_⟩)
          · rw [← intsD_rp r1 e1]
            exact .of h1
          · have e3 := minI_of h3 h4
            rw [e2] at e3
            cases e3
            exact q _ _ (Ex.refl H) (.int _)
  · obtain ⟨v, u, rfl, rx, ry⟩ := r.two
    cases rx
    cases ry
    cases h
    refine .inr (.inr (.inl ⟨_, _, rfl, ?_⟩))
    rename_i i j
    rw [show (if j < i then j else i) = min i j by split <;> omega]
    exact q _ _ (Ex.refl H) (.int _)
  · obtain ⟨v, u, w, rfl, rx, ry, rz⟩ := r.three
    cases rx
    cases ry
    cases rz
    cases h
    exact .inr (.inr (.inr ⟨_, _, _, rfl, q _ _ (Ex.refl H) (.int _)⟩))
  · cases h

/-- bools of a list of data -/
def blsD : List D → Option (List Bool)
  | [] => some []
  | .bl b :: r => (blsD r).map (b :: ·)
  | _ :: _ => none
theorem blsD_rp {K : PySem.W.Frag} {B : Addr → Prop} {H : Hp} : ∀ {ds : List D} {vs : List V} {bs : List Bool}, RpL K B H ds vs → blsD ds = some bs → vs = bs.map V.bl
  | _, _, _, .nil, h => by
    cases h
    rfl
  | _, _, bs, .cons (d := d) (ds := ds) r t, h => by
    cases r with
    | bl b =>
      simp only [blsD] at h
      cases e : blsD ds with
      | none =>
        rw [e] at h
        cases h
      | some ms =>
        rw [e] at h
        cases h
        rw [blsD_rp t e]
        rfl
    | _ => cases h
def allD : List D → Option D
  | [.lst xs] => (blsD xs).map fun bs => .bl (bs.all id)
  | _ => none
theorem cd_all {K : PySem.W.Frag} : CallD K (rAll K) allD := by
  intro B H vs xs z Q dm r h q
  unfold allD at h
  split at h
  · rename_i ds
    obtain ⟨v, rfl, rx⟩ := r.one
    cases rx with
    | @lst a us _ h1 n1 r1 =>
      cases e1 : blsD ds with
      | none => rw [e1] at h; cases h
      | some bs =>
        rw [e1] at h
        cases h
        refine ⟨a, bs, rfl, ?_, q _ _ (Ex.refl H) (.bl _)⟩
        rw [← blsD_rp r1 e1]
        exact .of h1
  · cases h
/-- list(x), tuple(x) -/
def toLD : List D → Option D
  | [.lst xs] => some (.lst xs)
  | [.tup xs] => some (.lst xs)
  | _ => none
def toTD : List D → Option D
  | [.lst xs] => some (.tup xs)
  | [.tup xs] => some (.tup xs)
  | _ => none
def rToL (K : PySem.W.Frag) : List V → Hp → VK → Prop := fun xs H Q => ∃ p ys, xs = [.ref p] ∧ (SqL K H p ys ∨ SqT K H p ys) ∧ ∀ l, H l = none → Q (.ref l) (upd H l (.lst ys))
def rToT (K : PySem.W.Frag) : List V → Hp → VK → Prop := fun xs H Q => ∃ p ys, xs = [.ref p] ∧ ((SqL K H p ys ∧ ∀ l, H l = none → Q (.ref l) (upd H l (.tup ys))) ∨ (SqT K H p ys ∧ Q (.ref p) H))
theorem call_toL {X : Cx} : CallR X (.type "list") (rToL X.K) := call_list_of
theorem call_toT {X : Cx} : CallR X (.type "tuple") (rToT X.K) := call_tuple_of
theorem cd_toL {K : PySem.W.Frag} : CallD K (rToL K) toLD := by
  intro B H vs xs z Q dm r h q
  unfold toLD at h
  split at h
  · obtain ⟨v, rfl, rx⟩ := r.one
    cases rx with
    | @lst a us _ h1 n1 r1 =>
      cases h
      exact ⟨a, us, rfl, .inl (.of h1), fun p np => q _ _ (Ex.new np) (.lst upd_same (dm.fresh np) (r1.ex (Ex.new np)))⟩
  · obtain ⟨v, rfl, rx⟩ := r.one
    cases rx with
    | @tup a us _ h1 n1 r1 =>
      cases h
      exact ⟨a, us, rfl, .inr (.of h1), fun p np => q _ _ (Ex.new np) (.lst upd_same (dm.fresh np) (r1.ex (Ex.new np)))⟩
  · cases h
theorem cd_toT {K : PySem.W.Frag} : CallD K (rToT K) toTD := by
  intro B H vs xs z Q dm r h q
  unfold toTD at h
  split at h
  · obtain ⟨v, rfl, rx⟩ := r.one
    cases rx with
    | @lst a us _ h1 n1 r1 =>
      cases h
      exact ⟨a, us, rfl, .inl ⟨.of h1, fun p np => q _ _ (Ex.new np) (.tup upd_same (dm.fresh np) (r1.ex (Ex.new np)))⟩⟩
  · obtain ⟨v, rfl, rx⟩ := r.one
    cases rx with
    | @tup a us _ h1 n1 r1 =>
      cases h
      exact ⟨a, us, rfl, .inr ⟨.of h1, q _ _ (Ex.refl H) (.tup h1 n1 r1)⟩⟩
  · cases h
/-- int(x), bool(x) -/
def toID : List D → Option D
  | [.int i] => some (.int i)
  | [.bl k] => some (.int (if k then 1 else 0))
  | _ => none
def toBD : List D → Option D
  | [.int i] => some (.bl (i != 0))
  | [.bl k] => some (.bl k)
  | _ => none
def rToI : List V → Hp → VK → Prop := fun xs H Q => (∃ i, xs = [.int i] ∧ Q (.int i) H) ∨ ∃ k, xs = [.bl k] ∧ Q (.int (if k then 1 else 0)) H
def rToB : List V → Hp → VK → Prop := fun xs H Q => (∃ i, xs = [.int i] ∧ Q (.bl (i != 0)) H) ∨ ∃ k, xs = [.bl k] ∧ Q (.bl k) H
theorem call_toI {X : Cx} : CallR X (.type "int") rToI := call_int1
theorem call_toB {X : Cx} : CallR X (.type "bool") rToB := call_bool1
theorem cd_toI {K : PySem.W.Frag} : CallD K rToI toID := by
  intro B H vs xs z Q dm r h q
  unfold toID at h
  split at h
  · obtain ⟨v, rfl, rx⟩ := r.one
    cases rx
    cases h
    exact .inl ⟨_, rfl, q _ _ (Ex.refl H) (.int _)⟩
  · obtain ⟨v, rfl, rx⟩ := r.one
    cases rx
    cases h
    exact .inr ⟨_, rfl, q _ _ (Ex.refl H) (.int _)⟩
  · cases h
theorem cd_toB {K : PySem.W.Frag} : CallD K rToB toBD := by
  intro B H vs xs z Q dm r h q
  unfold toBD at h
  split at h
  · obtain ⟨v, rfl, rx⟩ := r.one
    cases rx
    cases h
    exact .inl ⟨_, rfl, q _ _ (Ex.refl H) (.bl _)⟩
  · obtain ⟨v, rfl, rx⟩ := r.one
    cases rx
    cases h
    exact .inr ⟨_, rfl, q _ _ (Ex.refl H) (.bl _)⟩
  · cases h

/-! ### isinstance -/
def tyName : D → String
  | .non => "NoneType" | .bl _ => "bool" | .int _ => "int" | .str _ => "str" | .lst _ => "list" | .tup _ => "tuple" | .dic _ => "dict" | .scr _ => "?" | .ktup _ => "?"
theorem tyx_of {K : PySem.W.Frag} {B : Addr → Prop} {H : Hp} {x : D} {v : V} (r : Rp K B H x v) (hs : tyName x ≠ "?") : TyX K H v (.type (tyName x)) := by
  cases r with
  | non => exact .base .non
  | bl b => exact .base (.bl b)
  | int i => exact .base (.int i)
  | str s => exact .base (.str s)
  | lst h _ _ => exact .base (.lst h)
  | tup h _ _ => exact .base (.tup h)
  | dic h _ => exact .base (.dT h)
  | scr _ => exact absurd rfl hs
  | ktp _ _ _ => exact absurd rfl hs
/-- isinstance(x, T), T one of the built-in types below -/
def isTy (a b : String) : Bool := a == b || (a == "bool" && b == "int")
def tyOk (a : String) : Bool := a == "NoneType" || a == "bool" || a == "int" || a == "str" || a == "list" || a == "tuple" || a == "dict"
def clsOk (b : String) : Bool := b == "bool" || b == "int" || b == "str" || b == "list" || b == "tuple"
theorem kitB_at : ∀ a ∈ ["NoneType", "bool", "int", "str", "list", "tuple", "dict"], ∀ b ∈ ["bool", "int", "str", "list", "tuple"], kitB a b = some (isTy a b) := by decide +kernel
theorem tyName_mem (x : D) (hs : tyName x ≠ "?") : tyName x ∈ ["NoneType", "bool", "int", "str", "list", "tuple", "dict"] := by
  cases x <;> simp [tyName] at hs ⊢
def isiD (x : D) (T : String) : Option D := if tyName x == "?" then none else some (.bl (isTy (tyName x) T))
end DL
/-! DL3: environments of data, the expression language and its evaluator, judgements by data. -/
namespace DL
open PySem PySem.Spec PyProof.Rows L2

abbrev Env := List (Option D)
def wipeE (ρ : Env) : List Nat → Env
  | [] => ρ
  | v :: vs => (wipeE ρ vs).set v none
structure RpE (K : PySem.W.Frag) (B : Addr → Prop) (H : Hp) (ρ : Env) (σ : L2.St) : Prop where
  len : ρ.length = σ.length
  at_ : ∀ (i : Nat) (d : D), ρ[i]? = some (some d) → ∃ v, σ[i]? = some (some v) ∧ Rp K B H d v
section
variable {K : PySem.W.Frag} {B B' : Addr → Prop} {H H' : Hp} {ρ : Env} {σ : L2.St}
theorem RpE.mono (r : RpE K B H ρ σ) (e : ExB B H H') (hb : ∀ a, B' a → B a ∨ H a = none) : RpE K B' H' ρ σ := ⟨r.len, fun i d h => let ⟨v, h1, h2⟩ := r.at_ i d h; ⟨v, h1, h2.mono e hb⟩⟩
theorem RpE.ex (r : RpE K B H ρ σ) (e : Ex H H') : RpE K B H' ρ σ := r.mono e.toB fun _ q => .inl q
theorem get_set {α : Type} (l : List α) (i j : Nat) (x : α) : (l.set i x)[j]? = if i = j then (if i < l.length then some x else none) else l[j]? := by
  rw [List.getElem?_set]
theorem RpE.set (r : RpE K B H ρ σ) (i : Nat) {d : D} {v : V} (h : Rp K B H d v) : RpE K B H (ρ.set i (some d)) (σ.set i (some v)) := by
  refine ⟨by rw [List.length_set, List.length_set]; exact r.len, fun j e q => ?_⟩
  rw [get_set] at q
  rw [get_set]
  by_cases c : i = j
  · rw [if_pos c] at q
    rw [if_pos c]
    by_cases c2 : i < ρ.length
    · rw [if_pos c2] at q
      cases q
      rw [if_pos (by rw [← r.len]; exact c2)]
      exact ⟨v, rfl, h⟩
    · rw [if_neg c2] at q
      cases q
  · rw [if_neg c] at q
    rw [if_neg c]
    exact r.at_ j e q
theorem RpE.wipe (r : RpE K B H ρ σ) : ∀ vs : List Nat, RpE K B H (wipeE ρ vs) (wipe σ vs)
  | [] => r
  | i :: vs => by
    have ih := r.wipe vs
    refine ⟨by show ((wipeE ρ vs).set i none).length = ((L2.wipe σ vs).set i none).length; rw [List.length_set, List.length_set]; exact ih.len, fun j e q => ?_⟩
    have q' : ((wipeE ρ vs).set i none)[j]? = some (some e) := q
    show ∃ v, ((L2.wipe σ vs).set i none)[j]? = some (some v) ∧ _
    rw [get_set] at q'
    rw [get_set]
    by_cases c : i = j
    · rw [if_pos c] at q'
      by_cases c2 : i < (wipeE ρ vs).length
      · rw [if_pos c2] at q'
        cases q'
      · rw [if_neg c2] at q'
        cases q'
    · rw [if_neg c] at q'
      rw [if_neg c]
      exact ih.at_ j e q'
end
theorem set_none_comm (σ : L2.St) (i j : Nat) : (σ.set i none).set j none = (σ.set j none).set i none := by
  by_cases c : i = j
  · rw [c]
  · exact List.set_comm _ _ c
theorem wipe_set_mem {x : Option V} : ∀ {vs : List Nat} {j : Nat} (σ : L2.St), j ∈ vs → wipe (σ.set j x) vs = wipe σ vs
  | v :: vs, j, σ, h => by
    show (wipe (σ.set j x) vs).set v none = (wipe σ vs).set v none
    by_cases c : j ∈ vs
    · rw [wipe_set_mem σ c]
    · have e : j = v := by
        rcases List.mem_cons.mp h with z | z
        · exact z
        · exact absurd z c
      subst e
      have gen : ∀ (ws : List Nat) (τ : L2.St), (wipe (τ.set j x) ws).set j none = (wipe τ ws).set j none := by
        intro ws
        induction ws with
        | nil => intro τ; exact List.set_set ..
        | cons w ws ih =>
          intro τ
          show ((wipe (τ.set j x) ws).set w none).set j none = ((wipe τ ws).set w none).set j none
          rw [set_none_comm, ih, set_none_comm]
      exact gen vs σ
theorem wipe_wipe_sub : ∀ {ws vs : List Nat} (σ : L2.St), (∀ i ∈ ws, i ∈ vs) → wipe (wipe σ ws) vs = wipe σ vs
  | [], _, _, _ => rfl
  | w :: ws, vs, σ, h => by
    show wipe ((wipe σ ws).set w none) vs = _
    rw [wipe_set_mem _ (h w List.mem_cons_self)]
    exact wipe_wipe_sub σ fun i hi => h i (List.mem_cons_of_mem _ hi)

/-! ### dicts -/
def dlook (m : List ((Int × Int) × Int)) (k : Int × Int) : Option Int := (m.find? fun p => decide (p.1 = k)).map (·.2)
def dput (m : List ((Int × Int) × Int)) (k : Int × Int) (v : Int) : List ((Int × Int) × Int) :=
  if (m.any fun p => decide (p.1 = k)) = true then m.map (fun p => if p.1 = k then (p.1, v) else p) else m ++ [(k, v)]
def kK (k : Int × Int) : List Key := [.inl k.1, .inl k.2]
theorem kK_inj {a b : Int × Int} : kK a = kK b ↔ a = b := by
  constructor
  · intro h
    unfold kK at h
    simp only [List.cons.injEq, Sum.inl.injEq, and_true] at h
    exact Prod.ext h.1 h.2
  · intro h
    rw [h]
theorem dlook_enc (k : Int × Int) : ∀ m : List ((Int × Int) × Int), valV (encD m) (kK k) = (dlook m k).map V.int
  | [] => rfl
  | p :: m => by
    have ih := dlook_enc k m
    unfold valV dlook at ih ⊢
    show (List.find? _ ((kK p.1, V.int p.2) :: encD m)).map _ = ((List.find? _ (p :: m)).map _).map _
    rw [List.find?_cons, List.find?_cons]
    by_cases c : p.1 = k
    · rw [decide_eq_true c, decide_eq_true (kK_inj.mpr c)]
      rfl
    · rw [decide_eq_false c, decide_eq_false (fun z => c (kK_inj.mp z))]
      exact ih
theorem dput_enc (k : Int × Int) (v : Int) (m : List ((Int × Int) × Int)) : encD (dput m k v) = putK (encD m) (kK k) (.int v) := by
  have ha : ((encD m).any fun kv => decide (kv.1 = kK k)) = (m.any fun p => decide (p.1 = k)) := by
    unfold encD
    rw [List.any_map]
    refine congrArg (fun f => List.any m f) (funext fun p => ?_)
    show decide (kK p.1 = kK k) = decide (p.1 = k)
    by_cases c : p.1 = k
    · rw [decide_eq_true c, decide_eq_true (kK_inj.mpr c)]
    · rw [decide_eq_false c, decide_eq_false (fun z => c (kK_inj.mp z))]
  unfold dput putK
  rw [ha]
  split
  · unfold encD
    rw [List.map_map, List.map_map]
    refine congrArg (fun f => List.map f m) (funext fun p => ?_)
    show (kK (if p.1 = k then (p.1, v) else p).1, V.int (if p.1 = k then (p.1, v) else p).2) = if kK p.1 = kK k then (kK p.1, V.int v) else (kK p.1, V.int p.2)
    by_cases c : p.1 = k
    · rw [if_pos c, if_pos (kK_inj.mpr c)]
    · rw [if_neg c, if_neg (fun z => c (kK_inj.mp z))]
  · unfold encD
    rw [List.map_append]
    rfl
def keyD : D → Option (Int × Int)
  | .tup [.int a, .int b] => some (a, b)
  | _ => none
theorem keyD_rp {K : PySem.W.Frag} {B : Addr → Prop} {H : Hp} {d : D} {v : V} {k : Int × Int} (r : Rp K B H d v) (h : keyD d = some k) : ∃ b, v = .ref b ∧ H b = some (.tup ((kK k).map kV)) := by
  unfold keyD at h
  split at h
  · cases h
    cases r with
    | @tup a vs _ h1 n1 r1 =>
      obtain ⟨u, w, rfl, r2, r3⟩ := r1.two
      cases r2
      cases r3
      exact ⟨a, rfl, h1⟩
  · cases h

/-! ### the language -/
inductive Bop | add | sub | mul | fdiv | mod | pow
  deriving DecidableEq
inductive Cop | eq | ne | lt | le | gt | ge | is | isn | inn | nin
  deriving DecidableEq
inductive Blt | len | max | min | all | toL | toT | toI | toB
  deriving DecidableEq
inductive E where
  | var (i : Nat) | int (i : Int) | bl (b : Bool) | non | str (s : Str) | con (j : Nat)
  | nil | cons (a r : E)
  | tup (r : E) | lst (r : E)
  | dnew | d1 (k v : E) | d2 (k v k2 v2 : E)
  | bin (op : Bop) (a b : E) | neg (a : E)
  | nt (a : E) | an (a b : E) | orr (a b : E)
  | cmp (op : Cop) (a b : E) | chain (op op' : Cop) (a b c : E)
  | din (ng : Bool) (k d : E)
  | ife (t a b : E)
  | blt (f : Blt) (r : E)
  | isi (a : E) (T : String) | isi2 (a : E) (T U : String)
  | ix (a b : E) | dget (d k : E) | dget2 (d k x : E)
  | back (a : E)
  | ktup (a : E) | tix (a b : E) | kit (a : E)
  | sl (a : E) | slA (a lo : E) | slB (a hi : E) | slAB (a lo hi : E)
  | lrng (a : E) | trng (a : E)
  | call (f : Nat) (r : E)
  | rng1 (a : E) | rng2 (a b : E) | enm (a : E) | zp (a b : E)
  | comp (vs tg : List Nat) (pair : Bool) (it t e : E)
  | comp2 (vs : List Nat) (j j1 : Nat) (it it1 t e : E)

def op1 (g : D → Option D) : Option D → Option D
  | some x => g x
  | none => none
def op2 (g : D → D → Option D) : Option D → Option D → Option D
  | some x, some y => g x y
  | _, _ => none
def opL (g : List D → Option D) : Option D → Option D
  | some (.lst ds) => g ds
  | _ => none
def consD : D → D → Option D
  | d, .lst ds => some (.lst (d :: ds))
  | _, _ => none
def negD : D → Option D
  | .int i => some (.int (-i))
  | _ => none
def notD : D → Option D
  | .bl b => some (.bl (!b))
  | _ => none
/-- and, or, if: the second only where it is asked -/
def andD (x : Option D) (y : Option D) : Option D := match x with
  | some (.bl true) => y
  | some (.bl false) => some (.bl false)
  | _ => none
def orD (x : Option D) (y : Option D) : Option D := match x with
  | some (.bl true) => some (.bl true)
  | some (.bl false) => y
  | _ => none
def ifD (t : Option D) (x y : Option D) : Option D := match t with
  | some (.bl true) => x
  | some (.bl false) => y
  | _ => none
def binD : Bop → D → D → Option D
  | .add => addD | .sub => subD | .mul => mulD | .fdiv => fdivD | .mod => modD | .pow => powD
def cmpD : Cop → D → D → Option D
  | .eq => eqD | .ne => neD | .lt => ltD | .le => leD | .gt => gtD | .ge => geD | .is => isD | .isn => isNotD | .inn => inD | .nin => ninD
def bltD : Blt → List D → Option D
  | .len => lenD | .max => maxD | .min => minD | .all => allD | .toL => toLD | .toT => toTD | .toI => toID | .toB => toBD
/-- a op b op' c: c only where the first holds -/
def chainD (op op' : Cop) (x y z : Option D) : Option D := match op2 (cmpD op) x y with
  | some (.bl true) => op2 (cmpD op') y z
  | some (.bl false) => some (.bl false)
  | _ => none
def dinD (ng : Bool) (k d : D) : Option D := match d, keyD k with
  | .dic m, some k => some (.bl (if ng then !(dlook m k).isSome else (dlook m k).isSome))
  | _, _ => none
def dgetD (d k : D) : Option D := match d, keyD k with
  | .dic m, some k => (dlook m k).map D.int
  | _, _ => none
def dget2D (d k : D) (x : D) : Option D := match d, keyD k with
  | .dic m, some k => some (match dlook m k with | some i => .int i | none => x)
  | _, _ => none
def d1D (k v : D) : Option D := match keyD k, v with
  | some k, .int v => some (.dic [(k, v)])
  | _, _ => none
def d2D (k v k2 v2 : D) : Option D := match keyD k, v, keyD k2, v2 with
  | some a, .int x, some b, .int y => some (.dic (dput [(a, x)] b y))
  | _, _, _, _ => none
def d2O (a b c d : Option D) : Option D := match a, b, c, d with
  | some k, some v, some k2, some v2 => d2D k v k2 v2
  | _, _, _, _ => none
def backD : D → Option D
  | .lst xs => some (.lst xs.reverse)
  | .tup xs => some (.tup xs.reverse)
  | _ => none
def ktupD : D → Option D
  | .lst ds => (intsD ds).map D.ktup
  | _ => none
def tixD : D → D → Option D
  | .ktup ns, .int i => if i ∈ ns then some (.int (ns.idxOf i : Nat)) else none
  | _, _ => none
def kitD : D → Option D
  | .ktup ns => some (.lst (ns.map D.int))
  | _ => none
def rngD (lo hi : Int) : List D := (List.range (hi - lo).toNat).map fun i => .int (lo + (i : Nat))
def r62 (i : Int) : Bool := decide (-(2 ^ 62) ≤ i) && decide (i < 2 ^ 62)
def rng1D : D → Option D
  | .int n => if r62 n then some (.lst (rngD 0 n)) else none
  | _ => none
def rng2D : D → D → Option D
  | .int lo, .int hi => if r62 lo && r62 hi then some (.lst (rngD lo hi)) else none
  | _, _ => none
def lrngD : D → Option D
  | .int n => if decide (0 ≤ n) && decide (n ≤ 100000) then some (.lst (rngD 0 n)) else none
  | _ => none
def trngD : D → Option D
  | .int n => if decide (0 ≤ n) && decide (n ≤ 100000) then some (.tup (rngD 0 n)) else none
  | _ => none
def seqD : D → Option (List D)
  | .lst ds => some ds
  | .tup ds => some ds
  | _ => none
def enmL : Nat → List D → List D
  | _, [] => []
  | i, d :: ds => .tup [.int (i : Nat), d] :: enmL (i + 1) ds
def enmD (d : D) : Option D := (seqD d).map fun ds => .lst (enmL 0 ds)
def zipL : List D → List D → List D
  | x :: xs, y :: ys => .tup [x, y] :: zipL xs ys
  | _, _ => []
def zpD : D → D → Option D
  | .lst xs, .lst ys => some (.lst (zipL xs ys))
  | .tup xs, .tup ys => some (.lst (zipL xs ys))
  | _, _ => none
def intO : D → Option Int
  | .int i => some i
  | _ => none
def slAD (a lo : D) : Option D := (intO lo).bind fun l => sliceD a (some l) none
def slBD (a hi : D) : Option D := (intO hi).bind fun u => sliceD a none (some u)
def slABD (a lo hi : D) : Option D := (intO lo).bind fun l => (intO hi).bind fun u => sliceD a (some l) (some u)
def op3 (g : D → D → D → Option D) : Option D → Option D → Option D → Option D
  | some x, some y, some z => g x y z
  | _, _, _ => none
def setAll (ρ : Env) : List Nat → List D → Option Env
  | [], [] => some ρ
  | i :: is, d :: ds => setAll (ρ.set i (some d)) is ds
  | _, _ => none
def bindT (ρ : Env) (tg : List Nat) (pair : Bool) (d : D) : Option Env := match pair, tg, d with
  | true, tg, .tup ds => setAll ρ tg ds
  | false, [j], d => some (ρ.set j (some d))
  | _, _, _ => none
/-- one turn: nothing, or an item -/
def testD (t : Option D) (e : Option D) : Option (Option D) := match t with
  | some (.bl true) => match e with
    | some d => some (some d)
    | none => none
  | some (.bl false) => some none
  | _ => none
def compL (f : D → Option (Option D)) : List D → Option (List D)
  | [] => some []
  | d :: ds => match f d, compL f ds with
    | some none, some r => some r
    | some (some x), some r => some (x :: r)
    | _, _ => none
def compL2 (f : D → Option (List D)) : List D → Option (List D)
  | [] => some []
  | d :: ds => match f d, compL2 f ds with
    | some l, some r => some (l ++ r)
    | _, _ => none
def itemsO : Option D → Option (List D)
  | some (.lst ds) => some ds
  | some (.tup ds) => some ds
  | _ => none
def capL (r : Option (List D)) : Option D := match r with
  | some ds => some (.lst ds)
  | none => none
def capI (o : Option (List D)) : Option (List D) := match o with
  | some ds => if ds.length ≤ 4096 then some ds else none
  | none => none
def onI (o : Option (List D)) (g : List D → Option (List D)) : Option (List D) := match o with
  | some ds => g ds
  | none => none
def onE (o : Option Env) (g : Env → Option (Option D)) : Option (Option D) := match o with
  | some ρ => g ρ
  | none => none

section
variable (Φ : Nat → List D → Option D) (cs : Nat → Int)
def ev : E → Env → Option D
  | .var i, ρ => match ρ[i]? with
    | some (some d) => some d
    | _ => none
  | .int i, _ => some (.int i)
  | .bl b, _ => some (.bl b)
  | .non, _ => some .non
  | .str s, _ => some (.str s)
  | .con j, _ => some (.int (cs j))
  | .nil, _ => some (.lst [])
  | .cons a r, ρ => op2 consD (ev a ρ) (ev r ρ)
  | .tup r, ρ => opL (fun ds => if ds.length ≤ lim then some (.tup ds) else none) (ev r ρ)
  | .lst r, ρ => opL (fun ds => if ds.length ≤ lim then some (.lst ds) else none) (ev r ρ)
  | .dnew, _ => some (.dic [])
  | .d1 k v, ρ => op2 d1D (ev k ρ) (ev v ρ)
  | .d2 k v k2 v2, ρ => d2O (ev k ρ) (ev v ρ) (ev k2 ρ) (ev v2 ρ)
  | .bin op a b, ρ => op2 (binD op) (ev a ρ) (ev b ρ)
  | .neg a, ρ => op1 negD (ev a ρ)
  | .nt a, ρ => op1 notD (ev a ρ)
  | .an a b, ρ => andD (ev a ρ) (ev b ρ)
  | .orr a b, ρ => orD (ev a ρ) (ev b ρ)
  | .cmp op a b, ρ => op2 (cmpD op) (ev a ρ) (ev b ρ)
  | .chain op op' a b c, ρ => chainD op op' (ev a ρ) (ev b ρ) (ev c ρ)
  | .din ng k d, ρ => op2 (dinD ng) (ev k ρ) (ev d ρ)
  | .ife t a b, ρ => ifD (ev t ρ) (ev a ρ) (ev b ρ)
  | .blt f r, ρ => opL (bltD f) (ev r ρ)
  | .isi a T, ρ => op1 (fun x => isiD x T) (ev a ρ)
  | .isi2 a T U, ρ => op1 (fun x => if tyName x == "?" then none else some (.bl (isTy (tyName x) T || isTy (tyName x) U))) (ev a ρ)
  | .ix a b, ρ => op2 ixD (ev a ρ) (ev b ρ)
  | .dget d k, ρ => op2 dgetD (ev d ρ) (ev k ρ)
  | .dget2 d k x, ρ => op3 dget2D (ev d ρ) (ev k ρ) (ev x ρ)
  | .back a, ρ => op1 backD (ev a ρ)
  | .ktup a, ρ => op1 ktupD (ev a ρ)
  | .tix a b, ρ => op2 tixD (ev a ρ) (ev b ρ)
  | .kit a, ρ => op1 kitD (ev a ρ)
  | .sl a, ρ => op1 (fun x => sliceD x none none) (ev a ρ)
  | .slA a lo, ρ => op2 slAD (ev a ρ) (ev lo ρ)
  | .slB a hi, ρ => op2 slBD (ev a ρ) (ev hi ρ)
  | .slAB a lo hi, ρ => op3 slABD (ev a ρ) (ev lo ρ) (ev hi ρ)
  | .lrng a, ρ => op1 lrngD (ev a ρ)
  | .trng a, ρ => op1 trngD (ev a ρ)
  | .call f r, ρ => opL (Φ f) (ev r ρ)
  | .rng1 a, ρ => op1 rng1D (ev a ρ)
  | .rng2 a b, ρ => op2 rng2D (ev a ρ) (ev b ρ)
  | .enm a, ρ => op1 enmD (ev a ρ)
  | .zp a b, ρ => op2 zpD (ev a ρ) (ev b ρ)
  | .comp vs tg pair it t e, ρ => capL (onI (capI (itemsO (ev it ρ))) (compL fun d => onE (bindT (wipeE ρ vs) tg pair d) fun ρ' => testD (ev t ρ') (ev e ρ')))
  | .comp2 vs j j1 it it1 t e, ρ => capL (onI (capI (itemsO (ev it ρ))) (compL2 fun d => onI (capI (itemsO (ev it1 ((wipeE ρ vs).set j (some d))))) (compL fun d1 =>
      testD (ev t ((wipeE ((wipeE ρ vs).set j (some d)) [j1]).set j1 (some d1))) (ev e ((wipeE ((wipeE ρ vs).set j (some d)) [j1]).set j1 (some d1))))))
end
end DL
/-! DL4a: enumerate over a tuple. -/
namespace DL
open PySem PySem.Spec PyProof.Rows L2
set_option maxHeartbeats 4000000 in
theorem meets_enum1 {v : Value} {o : Obj} {G : Heap → Prop} (Bg : Begins v o G) :
    Meets (Builtin.«enumerate.__new__» ⟨[.type "enumerate", v], []⟩) (fun _ R s => G s.heap ∧
      R (.ok (.ret (.ref (s.heap.push o).objs.size))) { s with heap := (s.heap.push o).push { cls := .type "enumerate", data := .fields #[.none, .bool false, .ref s.heap.objs.size, rawInt 0, .none, .none] } }) :=
  .of_wp fun prog w A R s hyp => by
    obtain ⟨hp, gs, dr, tk, os⟩ := s
    obtain ⟨g1, h⟩ := hyp
    have hsub := sub_enumerate
    have q1 : ∀ {A' : Around} {E' : Value → Shared → Prop} {Q' : Value → Shared → Prop}, Q' (.ref hp.objs.size) ⟨hp.push o, gs, dr, tk, os⟩ → wpAny (model prog w) A' (pyIter v) Q' E' ⟨hp, gs, dr, tk, os⟩ :=
      fun q => Bg.iter prog w _ _ ⟨hp, gs, dr, tk, os⟩ _ g1 q
    wp_walk using q1
    refine wpAny_stack_any fun st => wpAny_pure ?_
    split
    · rename_i c _ _ _ _ _
      cases (c == Value.type "enumerate") <;> (wp_walk using q1; exact ⟨_, rfl, h⟩)
    · wp_walk using q1
      exact ⟨_, rfl, h⟩
section
variable {prog : Program} {w : World} {A : Around} {E : Value → Shared → Prop} {s : Shared}
theorem enum1_begins {v : Value} {o : Obj} {G : Heap → Prop} {Q : Value → Shared → Prop} (Bg : Begins v o G) (g1 : G s.heap)
    (k : ∀ h', IsEnum h' (s.heap.objs.size + 1) s.heap.objs.size 0 .none → h'.get? s.heap.objs.size = some o → (∀ b ob, s.heap.get? b = some ob → h'.get? b = some ob) → Q (.ref (s.heap.objs.size + 1)) { s with heap := h' }) :
    wpAny (model prog w) A (call (.type "enumerate") [v]) Q E s := by
  refine callType_new F.called_enumerate (by decide) (F.typeCall_enumerate_1 _) (F.newCall_enumerate_1 _) (fun ob => F.args_object_init_2 ob _) F.entry_enumerate_new (meets_enum1 Bg) ⟨g1, ?_⟩
  have hz : (s.heap.push o).objs.size = s.heap.objs.size + 1 := Heap.size_push ..
  show _ ∧ _
  rw [hz]
  have he : IsEnum ((s.heap.push o).push { cls := .type "enumerate", data := .fields #[.none, .bool false, .ref s.heap.objs.size, rawInt 0, .none, .none] }) (s.heap.objs.size + 1) s.heap.objs.size 0 .none := by
    have e1 := Heap.get?_push_size (s.heap.push o) (o := { cls := .type "enumerate", data := .fields #[.none, .bool false, .ref s.heap.objs.size, rawInt 0, .none, .none] }) rfl
    rw [hz] at e1
    exact e1
  exact ⟨⟨_, he, rfl⟩, k _ he (Heap.get?_push_of_some _ (Heap.get?_push_size _ Bg.free)) fun b ob x => Heap.get?_push_of_some _ (Heap.get?_push_of_some _ x)⟩
end
/-- the tuple at a, each item in a new pair -/
def IteT (K : PySem.W.Frag) (a : Addr) : It :=
  ⟨fun i H => ∃ (xs : List V) (x : V), SqT K H a xs ∧ xs[i]? = some x, fun i H v H' => ∃ T x, v = .ref T ∧ H T = none ∧ H' = upd H T (.tup [.int (i : Nat), x]) ∧ ∀ xs, SqT K H a xs → xs[i]? = some x, fun i H => ∃ xs : List V, SqT K H a xs ∧ xs.length ≤ i⟩
theorem turn_enumT {P : Program} {w : World} {K : PySem.W.Frag} {elts : List Expr} {kk : Nat} {tpos : Pos} (a e it : Addr) :
    Turn P w K (.Tuple elts kk tpos) (IteT K a) [e, it] e (fun i h => (∃ old, IsEnum h e it ((i : Nat) : Int) old) ∧ h.IsTupleIter it a i ∧ e ≠ it ∧ a ≠ it ∧ a ≠ e) where
  mem := List.mem_cons_self
  obj := fun i h st b hb => by
    obtain ⟨⟨old, he⟩, ⟨o, ho, hc, hd⟩, _⟩ := st
    rcases List.mem_cons.mp hb with z | z
    · rw [z]
      exact ⟨_, he, fun v q => nomatch q⟩
    · exact ⟨o, (List.mem_singleton.mp z) ▸ ho, fun v q => by rw [hd] at q; cases q⟩
  keep := fun i h h' st k => let ⟨⟨old, he⟩, hi, hne, ha⟩ := st; ⟨⟨old, k e List.mem_cons_self _ he⟩, hi.at fun o q => k it (List.mem_cons_of_mem _ List.mem_cons_self) o q, hne, ha⟩
  item := by
    intro X hP hw hK hc i pins s σ H E I hf st hg
    subst hP hw hK
    obtain ⟨⟨old, he⟩, hit, hne, ha1, ha2⟩ := st
    obtain ⟨xs, x, hq, hx⟩ := hg
    obtain ⟨its, rv, p, hz⟩ := I.tuple hq
    obtain ⟨u, hu, ru⟩ := rv.get hx
    have hT0 : s.heap.IsTuple a its.toArray := p
    have hel : e < s.heap.objs.size := Heap.lt_size he
    have hil : it < s.heap.objs.size := by
      obtain ⟨_, q, _⟩ := hit
      exact Heap.lt_size q
    have hi2 : i < its.toArray.size := by
      have h3 := (List.getElem?_eq_some_iff.mp hu).1
      simpa using h3
    refine wpAny_pyNext_enum_itemC (c := ((i : Nat) : Int)) (Draws.tuple (A := X.A.in1) (I.ok.hd hc) it a ha1 its.toArray) he ⟨hit, hT0⟩ hi2 hne ?_ fun x' h' tk hPx ho hst' hT hsz hk => ?_
    · intro hm
      rcases List.mem_cons.mp hm with z | z
      · exact hne z
      · exact ha2 (List.mem_singleton.mp z).symm
    have ex : x' = u := by
      have h4 : its.toArray[i]? = some u := by simpa using hu
      have h5 : its.toArray[i]? = some x' := hPx
      rw [h4] at h5
      exact (Option.some.inj h5).symm
    subst ex
    refine ⟨_, rfl, wpAny_letOwnedTupleGo_enum (s := { s with heap := h', toks := tk + 1 }) ho fun h'' he' sb => ?_⟩
    have hT2 : h''.get? s.heap.objs.size = some { cls := .type "tuple", data := .seq #[.int ((i : Nat) : Int) tk, x'] } := (sb.2 _ (Nat.ne_of_gt hel)).trans hT
    have nw : ObjOk X.prog X.w (upd H s.heap.objs.size (.tup [.int (i : Nat), x])) h'' s.heap.objs.size (.tup [.int (i : Nat), x]) :=
      ⟨by show 2 ≤ sizeLine; decide, [.int i tk, x'], .cons ⟨_, rfl⟩ (.cons ru .nil), ⟨_, hT2, rfl, _, rfl⟩⟩
    have I1 : Inv X pins σ (upd H s.heap.objs.size (.tup [.int (i : Nat), x])) { s with heap := h'', toks := tk + 1 } :=
      I.turnedNew (ch := [e, it]) (fun b ob hb q => (sb.2 b (fun z => hb (by simp [z]))).trans (hk b ob (fun z => hb (by simp [z])) (fun z => hb (by simp [z])) q)) hf (Nat.le_refl _) nw
    refine ⟨.ref s.heap.objs.size, _, I1, rfl, ⟨_, x, rfl, I.hok.fresh (Nat.le_refl _), rfl, fun ys hy => by rw [I.tuple_inj hy hq]; exact hx⟩, ⟨⟨x', ?_⟩, hst'.1.at fun o q => (sb.2 it (Ne.symm hne)).trans q, hne, ha1, ha2⟩, fun b hb => ?_⟩
    · rw [show ((i + 1 : Nat) : Int) = (i : Int) + 1 by omega]
      exact he'
    · have hb' : b < s.heap.objs.size := by
        rcases List.mem_cons.mp hb with z | z
        · rw [z]; exact hel
        · rw [List.mem_singleton.mp z]; exact hil
      rw [upd_ne (Nat.ne_of_lt hb')]
      exact (hf b hb).1
  done := by
    intro X hP hw hK hc i pins s σ H E I hf st hg
    subst hP hw hK
    obtain ⟨⟨old, he⟩, hit, hne, ha1, ha2⟩ := st
    obtain ⟨xs, hq, hx⟩ := hg
    obtain ⟨its, rv, p, hz⟩ := I.tuple hq
    obtain ⟨f0, f1, f2, f3, f4, f5⟩ := hf it (List.mem_cons_of_mem _ List.mem_cons_self)
    have hl := rv.length
    have hT0 : s.heap.IsTuple a its.toArray := p
    have hno : its.toArray[i]? = none := by
      rw [List.getElem?_toArray]
      exact List.getElem?_eq_none_iff.mpr (by omega)
    have Dr := Draws.tuple (prog := X.prog) (w := X.w) (A := X.A.in1) (I.ok.hd hc) it a ha1 its.toArray
    have D0 : Draws X.prog X.w X.A.in1 it [it, a] 0 (fun _ _ => True) (fun _ h => h.IsTupleIter it a i ∧ h.IsTuple a its.toArray) :=
      ⟨fun _ h st => Dr.live i h st, fun _ h h' st k => Dr.frame i h h' st k, fun j s Q E hj _ _ => absurd hj (Nat.not_lt_zero j), fun s Q E st hE => wpAny_nextOf_tuple_end (I.ok.hd hc) st.1 st.2 hno hE⟩
    exact wpAny_pyNext_enum_endD D0 he ⟨hit, hT0⟩ fun h' eb => ⟨rfl, I.turned (t' := s.toks) (fun b o hb q => eb b o hb q) f0 f1 f3 f4 f5⟩
  self := fun A i s Q E st h => let ⟨⟨_, he⟩, _⟩ := st; wpAny_pyIter_enum he h
end DL
/-! DL4: judgements by data. -/
namespace DL
open PySem PySem.Spec PyProof.Rows L2

def eD (K : PySem.W.Frag) (f : Env → Option D) : TE := fun σ H Q => ∃ B ρ d, Dom B H ∧ RpE K B H ρ σ ∧ f ρ = some d ∧ ∀ v H', Ex H H' → Rp K B H' d v → Q v H'
def eT (K : PySem.W.Frag) (f : Env → Option D) : TT := fun σ H Q => ∃ B ρ b, Dom B H ∧ RpE K B H ρ σ ∧ f ρ = some (.bl b) ∧ ∀ H', Ex H H' → Q b H'
def eA (K : PySem.W.Frag) (f : Env → Option D) : TA := fun σ H Q => ∃ B ρ ds, Dom B H ∧ RpE K B H ρ σ ∧ f ρ = some (.lst ds) ∧ ∀ vs H', Ex H H' → RpL K B H' ds vs → Q vs H'
/-- n items, while all outside B stands; each stands for its data, off all that is set apart meanwhile -/
def WkD (K : PySem.W.Frag) (B : Addr → Prop) (J : It) (H : Hp) (ds : List D) : Prop :=
  Walk J ds.length (fun H' => ExB B H H') (fun i H1 x H2 => Ex H1 H2 ∧ ∀ d, ds[i]? = some d → ∀ B', (∀ a, B' a → B a ∨ H a = none) → Dom B' H1 → Rp K B' H2 d x)
def eI (K : PySem.W.Frag) (f : Env → Option (List D)) : TI := fun σ H R => ∃ B ρ ds, Dom B H ∧ RpE K B H ρ σ ∧ f ρ = some ds ∧ ∀ J H', Ex H H' → WkD K B J H' ds → R J H'

section
variable {X : Cx} {e a b c : Expr} {es : List Expr}
theorem PE.imp {t t' : TE} (i : ∀ σ H Q, t' σ H Q → t σ H Q) (h : PE X e t) : PE X e t' := ⟨fun pins s σ H Q I q => h.run pins s σ H Q I (i σ H Q q)⟩
theorem PT.imp {t t' : TT} (i : ∀ σ H Q, t' σ H Q → t σ H Q) (h : PT X e t) : PT X e t' := ⟨fun pins s σ H Q I q => h.run pins s σ H Q I (i σ H Q q)⟩
theorem PW.imp {t t' : TT} (i : ∀ σ H Q, t' σ H Q → t σ H Q) (h : PW X e t) : PW X e t' := ⟨fun w pins s σ H Q I q => h.run w pins s σ H Q I (i σ H Q q)⟩
theorem PA.imp {t t' : TA} (i : ∀ σ H Q, t' σ H Q → t σ H Q) (h : PA X es t) : PA X es t' := ⟨fun p pins s σ H Q I q => h.run p pins s σ H Q I (i σ H Q q)⟩
theorem PI.imp {tg : Expr} {t t' : TI} (i : ∀ σ H R, t' σ H R → t σ H R) (h : PI X tg e t) : PI X tg e t' := ⟨fun pins s σ H R I q => h.run pins s σ H R I (i σ H R q)⟩
end

section
variable {X : Cx} {pos p2 : Pos} {f g k : Env → Option D} {a b c e : Expr} {es : List Expr}
theorem op2_some {g : D → D → Option D} {x y : Option D} {z : D} (h : op2 g x y = some z) : ∃ d e, x = some d ∧ y = some e ∧ g d e = some z := by
  cases x with
  | none => cases h
  | some d =>
    cases y with
    | none => cases h
    | some e => exact ⟨d, e, rfl, rfl, h⟩
theorem op1_some {g : D → Option D} {x : Option D} {z : D} (h : op1 g x = some z) : ∃ d, x = some d ∧ g d = some z := by
  cases x with
  | none => cases h
  | some d => exact ⟨d, rfl, h⟩
theorem op3_some {g : D → D → D → Option D} {x y z : Option D} {r : D} (h : op3 g x y z = some r) : ∃ d e f, x = some d ∧ y = some e ∧ z = some f ∧ g d e f = some r := by
  cases x with
  | none => cases h
  | some d =>
    cases y with
    | none => cases h
    | some e =>
      cases z with
      | none => cases h
      | some f => exact ⟨d, e, f, rfl, rfl, rfl, h⟩
theorem opL_some {g : List D → Option D} {x : Option D} {z : D} (h : opL g x = some z) : ∃ ds, x = some (.lst ds) ∧ g ds = some z := by
  unfold opL at h
  split at h
  · exact ⟨_, rfl, h⟩
  · cases h
/-- constants and names -/
theorem de_var {i : Nat} {x : Str} (hN : X.N[i]? = some x) (hv : Vis X.env.scope x) (hd : (x == ("__debug__" : Str)) = false) (hcd : (x == ("__classdict__" : Str)) = false) :
    PE X (.Name x pos) (eD X.K fun ρ => match ρ[i]? with | some (some d) => some d | _ => none) := by
  refine PE.imp (fun σ H Q ⟨B, ρ, d, dm, re, h, q⟩ => ?_) (pe_var hN hv hd hcd)
  simp only at h
  split at h
  · rename_i d' e
    cases h
    obtain ⟨v, h1, h2⟩ := re.at_ i d e
    exact ⟨v, h1, q v H (Ex.refl H) h2⟩
  · cases h
theorem de_const {v : V} {d : D} {K : PySem.W.Frag} (r : ∀ B H, Rp K B H d v) {t : TE} (he : t = tC v) (h : PE X e t) (hK : K = X.K) : PE X e (eD X.K fun _ => some d) := by
  subst he hK
  refine PE.imp (fun σ H Q ⟨B, ρ, d', dm, re, h, q⟩ => ?_) h
  cases h
  exact q v H (Ex.refl H) (r B H)
theorem de_op {op : Operator} {r : R2} {G : D → D → Option D} (ho : OpR X (binaryOp op) r) (od : OpD X.K r G) (ha : PE X a (eD X.K f)) (hb : PE X b (eD X.K g)) :
    PE X (.BinOp a op b pos) (eD X.K fun ρ => op2 G (f ρ) (g ρ)) := by
  refine PE.imp (fun σ H Q ⟨B, ρ, d, dm, re, h, q⟩ => ?_) (pe_op ho ha hb)
  obtain ⟨x, y, hx, hy, hz⟩ := op2_some h
  exact ⟨B, ρ, x, dm, re, hx, fun v H1 e1 rx => ⟨B, ρ, y, dm.mono e1, re.ex e1, hy, fun u H2 e2 ry =>
    od B H2 v u x y d Q ((dm.mono e1).mono e2) (rx.ex e2) ry hz fun w H3 e3 rw => q w H3 ((e1.trans e2).trans e3) rw⟩⟩
theorem de_neg (ha : PE X a (eD X.K f)) : PE X (.UnaryOp .USub a pos) (eD X.K fun ρ => op1 negD (f ρ)) := by
  refine PE.imp (fun σ H Q ⟨B, ρ, d, dm, re, h, q⟩ => ?_) (pe_un un_neg ha)
  obtain ⟨x, hx, hz⟩ := op1_some h
  refine ⟨B, ρ, x, dm, re, hx, fun v H1 e1 rx => ?_⟩
  cases rx <;> first | (cases hz; done) | skip
  cases hz
  exact ⟨_, rfl, q _ _ e1 (.int _)⟩
theorem de_cmp {op : CmpOp} {r : R2} {G : D → D → Option D} (ho : OpR X (compareOp op) r) (od : OpD X.K r G) (ha : PE X a (eD X.K f)) (hb : PE X b (eD X.K g)) (hm : behindInMarks op b = false) :
    PE X (.Compare a [op] [b] pos) (eD X.K fun ρ => op2 G (f ρ) (g ρ)) := by
  refine PE.imp (fun σ H Q ⟨B, ρ, d, dm, re, h, q⟩ => ?_) (pe_cmpR ho ha hb hm)
  obtain ⟨x, y, hx, hy, hz⟩ := op2_some h
  exact ⟨B, ρ, x, dm, re, hx, fun v H1 e1 rx => ⟨B, ρ, y, dm.mono e1, re.ex e1, hy, fun u H2 e2 ry =>
    od B H2 v u x y d Q ((dm.mono e1).mono e2) (rx.ex e2) ry hz fun w H3 e3 rw => q w H3 ((e1.trans e2).trans e3) rw⟩⟩
theorem dt_cmp {op : CmpOp} {r : R2} {G : D → D → Option D} (ho : OpR X (compareOp op) r) (od : OpD X.K r G) (ha : PE X a (eD X.K f)) (hb : PE X b (eD X.K g)) (hm : behindInMarks op b = false) :
    PT X (.Compare a [op] [b] pos) (eT X.K fun ρ => op2 G (f ρ) (g ρ)) := by
  refine PT.imp (fun σ H Q ⟨B, ρ, b', dm, re, h, q⟩ => ?_) (pt_cmpR ho ha hb hm)
  obtain ⟨x, y, hx, hy, hz⟩ := op2_some h
  refine ⟨B, ρ, x, dm, re, hx, fun v H1 e1 rx => ⟨B, ρ, y, dm.mono e1, re.ex e1, hy, fun u H2 e2 ry =>
    od B H2 v u x y _ _ ((dm.mono e1).mono e2) (rx.ex e2) ry hz fun w H3 e3 rw => ?_⟩⟩
  cases rw
  exact ⟨b', rfl, q H3 ((e1.trans e2).trans e3)⟩
theorem chain_some {op op' : Cop} {x y z : Option D} {d : D} (h : chainD op op' x y z = some d) : ∃ dx dy, x = some dx ∧ y = some dy ∧
    ((cmpD op dx dy = some (.bl true) ∧ ∃ dz, z = some dz ∧ cmpD op' dy dz = some d) ∨ (cmpD op dx dy = some (.bl false) ∧ d = .bl false)) := by
  unfold chainD at h
  split at h
  · rename_i h1
    obtain ⟨dx, dy, rfl, rfl, h2⟩ := op2_some h1
    obtain ⟨dy', dz, e1, rfl, h3⟩ := op2_some h
    cases e1
    exact ⟨dx, dy, rfl, rfl, .inl ⟨h2, dz, rfl, h3⟩⟩
  · rename_i h1
    obtain ⟨dx, dy, rfl, rfl, h2⟩ := op2_some h1
    cases h
    exact ⟨dx, dy, rfl, rfl, .inr ⟨h2, rfl⟩⟩
  · cases h
theorem chain_run {op op' : Cop} {r r' : R2} {Q : VK} {d : D} (od : OpD X.K r (cmpD op)) (od' : OpD X.K r' (cmpD op')) {B : Addr → Prop} {ρ : Env} {H : Hp} {σ : L2.St} (dm : Dom B H) (re : RpE X.K B H ρ σ)
    (h : chainD op op' (f ρ) (g ρ) (k ρ) = some d) (q : ∀ v H', Ex H H' → Rp X.K B H' d v → Q v H') : tChain r r' (eD X.K f) (eD X.K g) (eD X.K k) σ H Q := by
  obtain ⟨dx, dy, hx, hy, hz⟩ := chain_some h
  refine ⟨B, ρ, dx, dm, re, hx, fun v H1 e1 rx => ⟨B, ρ, dy, dm.mono e1, re.ex e1, hy, fun u H2 e2 ry => ?_⟩⟩
  have dm2 := (dm.mono e1).mono e2
  have re2 := (re.ex e1).ex e2
  rcases hz with ⟨h1, dz, hz, h2⟩ | ⟨h1, h2⟩
  · refine od B H2 v u dx dy _ _ dm2 (rx.ex e2) ry h1 fun w H3 e3 rw => ?_
    cases rw
    refine ⟨true, rfl, ?_⟩
    rw [if_pos rfl]
    exact ⟨B, ρ, dz, dm2.mono e3, re2.ex e3, hz, fun t H4 e4 rt => od' B H4 u t dy dz d Q ((dm2.mono e3).mono e4) ((ry.ex e3).ex e4) rt h2 fun w5 H5 e5 r5 => q w5 H5 ((((e1.trans e2).trans e3).trans e4).trans e5) r5⟩
  · refine od B H2 v u dx dy _ _ dm2 (rx.ex e2) ry h1 fun w H3 e3 rw => ?_
    cases rw
    refine ⟨false, rfl, ?_⟩
    rw [if_neg Bool.false_ne_true]
    subst h2
    exact q _ _ ((e1.trans e2).trans e3) (.bl false)
theorem de_chain {op op' : CmpOp} {o o' : Cop} {r r' : R2} (ho : OpR X (compareOp op) r) (ho' : OpR X (compareOp op') r') (od : OpD X.K r (cmpD o)) (od' : OpD X.K r' (cmpD o')) (ha : PE X a (eD X.K f)) (hb : PE X b (eD X.K g)) (hc : PE X c (eD X.K k))
    (hm : lastMarks [op, op'] [b, c] = false) : PE X (.Compare a [op, op'] [b, c] pos) (eD X.K fun ρ => chainD o o' (f ρ) (g ρ) (k ρ)) :=
  PE.imp (fun σ H Q ⟨B, ρ, d, dm, re, h, q⟩ => chain_run od od' dm re h q) (pe_chain ho ho' ha hb hc hm)
theorem dt_chain {op op' : CmpOp} {o o' : Cop} {r r' : R2} (ho : OpR X (compareOp op) r) (ho' : OpR X (compareOp op') r') (od : OpD X.K r (cmpD o)) (od' : OpD X.K r' (cmpD o')) (ha : PE X a (eD X.K f)) (hb : PE X b (eD X.K g)) (hc : PE X c (eD X.K k))
    (hm : lastMarks [op, op'] [b, c] = false) : PT X (.Compare a [op, op'] [b, c] pos) (eT X.K fun ρ => chainD o o' (f ρ) (g ρ) (k ρ)) :=
  PT.imp (fun σ H Q ⟨B, ρ, b', dm, re, h, q⟩ => chain_run od od' dm re h fun v H' e1 r => by
    cases r
    exact ⟨b', rfl, q H' e1⟩) (pt_chain ho ho' ha hb hc hm)
/-- truth of an expression of any other form -/
theorem dt_val (h : PE X e (eD X.K f)) (he : ∀ whole, isTrue e X.env whole = (do let v ← whole; standAt e.pos; holding [v] (truthy v))) : PT X e (eT X.K f) :=
  PT.imp (fun σ H Q ⟨B, ρ, b', dm, re, h, q⟩ => ⟨B, ρ, .bl b', dm, re, h, fun v H' e1 r => by
    cases r
    exact ⟨b', rfl, q H' e1⟩⟩) (pt_val h he)
theorem and_some {x y : Option D} {d : D} (h : andD x y = some d) : (x = some (.bl true) ∧ y = some d) ∨ (x = some (.bl false) ∧ d = .bl false) := by
  unfold andD at h
  split at h
  · exact .inl ⟨rfl, h⟩
  · cases h; exact .inr ⟨rfl, rfl⟩
  · cases h
theorem or_some {x y : Option D} {d : D} (h : orD x y = some d) : (x = some (.bl true) ∧ d = .bl true) ∨ (x = some (.bl false) ∧ y = some d) := by
  unfold orD at h
  split at h
  · cases h; exact .inl ⟨rfl, rfl⟩
  · exact .inr ⟨rfl, h⟩
  · cases h
theorem if_some {t x y : Option D} {d : D} (h : ifD t x y = some d) : (t = some (.bl true) ∧ x = some d) ∨ (t = some (.bl false) ∧ y = some d) := by
  unfold ifD at h
  split at h
  · exact .inl ⟨rfl, h⟩
  · exact .inr ⟨rfl, h⟩
  · cases h
theorem de_and {rest : List Expr} (ha : PE X a (eD X.K f)) (hb : PE X (.BoolOp .And (b :: rest) pos) (eD X.K g)) : PE X (.BoolOp .And (a :: b :: rest) pos) (eD X.K fun ρ => andD (f ρ) (g ρ)) :=
  PE.imp (fun σ H Q ⟨B, ρ, d, dm, re, h, q⟩ => by
    rcases and_some h with ⟨h1, h2⟩ | ⟨h1, h2⟩
    · refine ⟨B, ρ, _, dm, re, h1, fun v H1 e1 r => ?_⟩
      cases r
      exact ⟨true, rfl, iteT ⟨B, ρ, d, dm.mono e1, re.ex e1, h2, fun w H2 e2 r2 => q w H2 (e1.trans e2) r2⟩⟩
    · refine ⟨B, ρ, _, dm, re, h1, fun v H1 e1 r => ?_⟩
      cases r
      subst h2
      exact ⟨false, rfl, iteF (q _ _ e1 (.bl false))⟩) (pe_and ha hb)
theorem de_or {rest : List Expr} (ha : PE X a (eD X.K f)) (hb : PE X (.BoolOp .Or (b :: rest) pos) (eD X.K g)) : PE X (.BoolOp .Or (a :: b :: rest) pos) (eD X.K fun ρ => orD (f ρ) (g ρ)) :=
  PE.imp (fun σ H Q ⟨B, ρ, d, dm, re, h, q⟩ => by
    rcases or_some h with ⟨h1, h2⟩ | ⟨h1, h2⟩
    · refine ⟨B, ρ, _, dm, re, h1, fun v H1 e1 r => ?_⟩
      cases r
      subst h2
      exact ⟨true, rfl, iteT (q _ _ e1 (.bl true))⟩
    · refine ⟨B, ρ, _, dm, re, h1, fun v H1 e1 r => ?_⟩
      cases r
      exact ⟨false, rfl, iteF ⟨B, ρ, d, dm.mono e1, re.ex e1, h2, fun w H2 e2 r2 => q w H2 (e1.trans e2) r2⟩⟩) (pe_or ha hb)
theorem dw_and {rest : List Expr} (ha : PT X a (eT X.K f)) (hb : PW X (.BoolOp .And (b :: rest) pos) (eT X.K g)) : PW X (.BoolOp .And (a :: b :: rest) pos) (eT X.K fun ρ => andD (f ρ) (g ρ)) :=
  PW.imp (fun σ H Q ⟨B, ρ, d, dm, re, h, q⟩ => by
    rcases and_some h with ⟨h1, h2⟩ | ⟨h1, h2⟩
    · exact ⟨B, ρ, _, dm, re, h1, fun H1 e1 => iteT ⟨B, ρ, d, dm.mono e1, re.ex e1, h2, fun H2 e2 => q H2 (e1.trans e2)⟩⟩
    · cases h2
      exact ⟨B, ρ, _, dm, re, h1, fun H1 e1 => iteF (q H1 e1)⟩) (pw_and ha hb)
theorem dw_or {rest : List Expr} (ha : PT X a (eT X.K f)) (hb : PW X (.BoolOp .Or (b :: rest) pos) (eT X.K g)) : PW X (.BoolOp .Or (a :: b :: rest) pos) (eT X.K fun ρ => orD (f ρ) (g ρ)) :=
  PW.imp (fun σ H Q ⟨B, ρ, d, dm, re, h, q⟩ => by
    rcases or_some h with ⟨h1, h2⟩ | ⟨h1, h2⟩
    · cases h2
      exact ⟨B, ρ, _, dm, re, h1, fun H1 e1 => iteT (q H1 e1)⟩
    · exact ⟨B, ρ, _, dm, re, h1, fun H1 e1 => iteF ⟨B, ρ, d, dm.mono e1, re.ex e1, h2, fun H2 e2 => q H2 (e1.trans e2)⟩⟩) (pw_or ha hb)
theorem not_some {x : D} {d : D} (h : notD x = some d) : ∃ b, x = .bl b ∧ d = .bl (!b) := by
  unfold notD at h
  split at h
  · cases h; exact ⟨_, rfl, rfl⟩
  · cases h
theorem de_not (ha : PE X a (eD X.K f)) : PE X (.UnaryOp .Not a pos) (eD X.K fun ρ => op1 notD (f ρ)) :=
  PE.imp (fun σ H Q ⟨B, ρ, d, dm, re, h, q⟩ => by
    obtain ⟨x, hx, hz⟩ := op1_some h
    obtain ⟨b, rfl, rfl⟩ := not_some hz
    refine ⟨B, ρ, _, dm, re, hx, fun v H1 e1 r => ?_⟩
    cases r
    exact ⟨b, rfl, q _ _ e1 (.bl _)⟩) (pe_not ha)
theorem dt_not (ha : PT X a (eT X.K f)) : PT X (.UnaryOp .Not a pos) (eT X.K fun ρ => op1 notD (f ρ)) :=
  PT.imp (fun σ H Q ⟨B, ρ, d, dm, re, h, q⟩ => by
    obtain ⟨x, hx, hz⟩ := op1_some h
    obtain ⟨b, rfl, e⟩ := not_some hz
    cases e
    exact ⟨B, ρ, _, dm, re, hx, fun H1 e1 => q _ e1⟩) (pt_not ha)
theorem de_if (ht : PT X c (eT X.K f)) (ha : PE X a (eD X.K g)) (hb : PE X b (eD X.K k)) : PE X (.IfExp c a b pos) (eD X.K fun ρ => ifD (f ρ) (g ρ) (k ρ)) :=
  PE.imp (fun σ H Q ⟨B, ρ, d, dm, re, h, q⟩ => by
    rcases if_some h with ⟨h1, h2⟩ | ⟨h1, h2⟩
    · exact ⟨B, ρ, _, dm, re, h1, fun H1 e1 => iteT ⟨B, ρ, d, dm.mono e1, re.ex e1, h2, fun w H2 e2 r2 => q w H2 (e1.trans e2) r2⟩⟩
    · exact ⟨B, ρ, _, dm, re, h1, fun H1 e1 => iteF ⟨B, ρ, d, dm.mono e1, re.ex e1, h2, fun w H2 e2 r2 => q w H2 (e1.trans e2) r2⟩⟩) (pe_ifExp ht ha hb)
/-! ### arguments, displays -/
theorem da_nil : PA X [] (eA X.K fun _ => some (.lst [])) := PA.imp (fun σ H Q ⟨B, ρ, ds, dm, re, h, q⟩ => by
  cases h
  exact q [] H (Ex.refl H) .nil) pa_nil
theorem da_cons (ha : PE X e (eD X.K f)) (hr : PA X es (eA X.K g)) (hs : starEach (e :: es) X.env = (false, eval e X.env) :: starEach es X.env) : PA X (e :: es) (eA X.K fun ρ => op2 consD (f ρ) (g ρ)) :=
  PA.imp (fun σ H Q ⟨B, ρ, ds, dm, re, h, q⟩ => by
    obtain ⟨x, y, hx, hy, hz⟩ := op2_some h
    unfold consD at hz
    split at hz
    · rename_i ds'
      cases hz
      exact ⟨B, ρ, x, dm, re, hx, fun v H1 e1 rx => ⟨B, ρ, ds', dm.mono e1, re.ex e1, hy, fun vs H2 e2 rs => q (v :: vs) H2 (e1.trans e2) (.cons (rx.ex e2) rs)⟩⟩
    · cases hz) (pa_cons ha hr hs)
theorem de_tup {x1 : Nat} (h : PA X es (eA X.K f)) : PE X (.Tuple es x1 pos) (eD X.K fun ρ => opL (fun ds => if ds.length ≤ lim then some (.tup ds) else none) (f ρ)) :=
  PE.imp (fun σ H Q ⟨B, ρ, d, dm, re, h, q⟩ => by
    obtain ⟨ds, hx, hz⟩ := opL_some h
    split at hz
    · cases hz
      refine ⟨B, ρ, ds, dm, re, hx, fun vs H1 e1 rs => ⟨?_, fun p np => q _ _ (e1.trans (Ex.new np)) (.tup upd_same ((dm.mono e1).fresh np) (rs.ex (Ex.new np)))⟩⟩
      rw [← rs.length]
      exact lim_ok (by assumption)
    · cases hz) (pe_tup h)
theorem de_lst (h : PA X es (eA X.K f)) : PE X (.List es pos) (eD X.K fun ρ => opL (fun ds => if ds.length ≤ lim then some (.lst ds) else none) (f ρ)) :=
  PE.imp (fun σ H Q ⟨B, ρ, d, dm, re, h, q⟩ => by
    obtain ⟨ds, hx, hz⟩ := opL_some h
    split at hz
    · cases hz
      refine ⟨B, ρ, ds, dm, re, hx, fun vs H1 e1 rs => ⟨?_, fun p np => q _ _ (e1.trans (Ex.new np)) (.lst upd_same ((dm.mono e1).fresh np) (rs.ex (Ex.new np)))⟩⟩
      rw [← rs.length]
      exact lim_ok (by assumption)
    · cases hz) (pe_lst h)
/-! ### calls of built-ins -/
theorem de_callB {x : Str} {p : Pos} {id : String} {r : List V → Hp → VK → Prop} {G : List D → Option D} (hc : CallR X (.builtin id) r) (cd : CallD X.K r G) (hg : Gl X x) (hm : X.mg x = none) (hv : bootBuiltins x = some (.builtin id)) (ha : PA X (e :: es) (eA X.K f))
    (hn : x ≠ "__name__") (hdb : (x == ("__debug__" : Str)) = false) (he : starEach (e :: es) X.env = (false, eval e X.env) :: starEach es X.env) (hpl : (backTo pos (starEach es X.env)).any (·.1) = false) :
    PE X (.Call (.Name x p) (e :: es) [] pos) (eD X.K fun ρ => opL G (f ρ)) :=
  PE.imp (fun σ H Q ⟨B, ρ, d, dm, re, h, q⟩ => by
    obtain ⟨ds, hx, hz⟩ := opL_some h
    exact ⟨B, ρ, ds, dm, re, hx, fun vs H1 e1 rs => cd B H1 vs ds d Q (dm.mono e1) rs hz fun w H2 e2 rw => q w H2 (e1.trans e2) rw⟩) (pe_callB hc hg hm hv ha hn hdb he hpl)
theorem de_callTy {x : Str} {p : Pos} {T : String} {r : List V → Hp → VK → Prop} {G : List D → Option D} (hc : CallR X (.type T) r) (cd : CallD X.K r G) (hg : Gl X x) (hm : X.mg x = none) (hv : bootBuiltins x = some (.type T)) (ha : PA X (e :: es) (eA X.K f))
    (hn : x ≠ "__name__") (hdb : (x == ("__debug__" : Str)) = false) (he : starEach (e :: es) X.env = (false, eval e X.env) :: starEach es X.env) (hpl : (backTo pos (starEach es X.env)).any (·.1) = false) :
    PE X (.Call (.Name x p) (e :: es) [] pos) (eD X.K fun ρ => opL G (f ρ)) :=
  PE.imp (fun σ H Q ⟨B, ρ, d, dm, re, h, q⟩ => by
    obtain ⟨ds, hx, hz⟩ := opL_some h
    exact ⟨B, ρ, ds, dm, re, hx, fun vs H1 e1 rs => cd B H1 vs ds d Q (dm.mono e1) rs hz fun w H2 e2 rw => q w H2 (e1.trans e2) rw⟩) (pe_callTy hc hg hm hv ha hn hdb he hpl)
/-! ### subscripts -/
theorem de_ix (ha : PE X a (eD X.K f)) (hb : PE X b (eD X.K g)) (hs : PlainIx b) : PE X (.Subscript a b pos) (eD X.K fun ρ => op2 ixD (f ρ) (g ρ)) :=
  PE.imp (fun σ H Q ⟨B, ρ, d, dm, re, h, q⟩ => by
    obtain ⟨x, y, hx, hy, hz⟩ := op2_some h
    exact ⟨B, ρ, x, dm, re, hx, fun v H1 e1 rx => ⟨B, ρ, y, dm.mono e1, re.ex e1, hy, fun u H2 e2 ry =>
      opd_ix B H2 v u x y d Q ((dm.mono e1).mono e2) (rx.ex e2) ry hz fun w H3 e3 rw => q w H3 ((e1.trans e2).trans e3) rw⟩⟩) (pe_ix ix_seq ha hb hs)
def eO (K : PySem.W.Frag) (f : Env → Option (Option Int)) : TO := fun σ H Q => ∃ B ρ o, Dom B H ∧ RpE K B H ρ σ ∧ f ρ = some o ∧ ∀ H', Ex H H' → Q o H'
theorem de_slice {lo hi : Option Expr} {fl fh : Env → Option (Option Int)} (he : PE X e (eD X.K f)) {tl th : TO} (hl : PO X lo tl) (hu : PO X hi th) (il : ∀ σ H Q, eO X.K fl σ H Q → tl σ H Q) (ih : ∀ σ H Q, eO X.K fh σ H Q → th σ H Q) :
    PE X (.Subscript e (.Slice lo hi none p2) pos) (eD X.K fun ρ => (fl ρ).bind fun l => (fh ρ).bind fun u => (f ρ).bind fun x => sliceD x l u) :=
  PE.imp (fun σ H Q ⟨B, ρ, d, dm, re, h, q⟩ => by
    dsimp only at h
    cases e1 : fl ρ with
    | none => rw [e1] at h; cases h
    | some l =>
      cases e2 : fh ρ with
      | none => rw [e1, e2] at h; cases h
      | some u =>
        cases e3 : f ρ with
        | none => rw [e1, e2, e3] at h; cases h
        | some x =>
          rw [e1, e2, e3] at h
          exact ⟨B, ρ, x, dm, re, e3, fun v H1 e4 rx => il _ _ _ ⟨B, ρ, l, dm.mono e4, re.ex e4, e1, fun H2 e5 => ih _ _ _ ⟨B, ρ, u, (dm.mono e4).mono e5, (re.ex e4).ex e5, e2, fun H3 e6 =>
            sld B H3 v x d l u Q (((dm.mono e4).mono e5).mono e6) ((rx.ex e5).ex e6) h fun w H4 e7 rw => q w H4 (((e4.trans e5).trans e6).trans e7) rw⟩⟩⟩) (pe_slice sl_D he hl hu)
theorem eo_none {fl : Env → Option (Option Int)} (h : ∀ ρ o, fl ρ = some o → o = none) : ∀ σ H Q, eO X.K fl σ H Q → tNoPart σ H Q := fun σ H Q ⟨B, ρ, o, dm, re, e, q⟩ => by
  have e2 := h ρ o e
  subst e2
  exact q H (Ex.refl H)
theorem eo_some {fl : Env → Option (Option Int)} (h : ∀ ρ o, fl ρ = some o → ∃ i, o = some i ∧ f ρ = some (.int i)) : ∀ σ H Q, eO X.K fl σ H Q → tPart (eD X.K f) σ H Q := fun σ H Q ⟨B, ρ, o, dm, re, e, q⟩ => by
  obtain ⟨i, rfl, e2⟩ := h ρ o e
  refine ⟨B, ρ, _, dm, re, e2, fun v H1 e1 r => ?_⟩
  cases r
  exact ⟨i, rfl, q H1 e1⟩
theorem PE.congr {f g : Env → Option D} (h : PE X e (eD X.K f)) (hfg : ∀ ρ d, g ρ = some d → f ρ = some d) : PE X e (eD X.K g) :=
  PE.imp (fun σ H Q ⟨B, ρ, d, dm, re, h, q⟩ => ⟨B, ρ, d, dm, re, hfg ρ d h, q⟩) h
theorem intO_some {x : D} {i : Int} (h : intO x = some i) : x = .int i := by
  unfold intO at h
  split at h
  · cases h; rfl
  · cases h
theorem de_sl (he : PE X e (eD X.K f)) : PE X (.Subscript e (.Slice none none none p2) pos) (eD X.K fun ρ => op1 (fun x => sliceD x none none) (f ρ)) :=
  PE.congr (de_slice (fl := fun _ => some none) (fh := fun _ => some none) he po_none po_none (eo_none fun _ _ h => (Option.some.inj h).symm) (eo_none fun _ _ h => (Option.some.inj h).symm)) fun ρ d h => by
    obtain ⟨x, hx, hz⟩ := op1_some h
    simp only [Option.bind_some, hx]
    exact hz
theorem part_some {fl : Env → Option D} {ρ : Env} {o : Option Int} (h : ((fl ρ).bind fun x => (intO x).map some) = some o) : ∃ i, o = some i ∧ fl ρ = some (.int i) := by
  cases e : fl ρ with
  | none => rw [e] at h; cases h
  | some x =>
    rw [e] at h
    cases e2 : intO x with
    | none => rw [show ((some x).bind fun x => (intO x).map some) = (intO x).map some from rfl, e2] at h; cases h
    | some i =>
      rw [show ((some x).bind fun x => (intO x).map some) = (intO x).map some from rfl, e2] at h
      cases h
      exact ⟨i, rfl, congrArg some (intO_some e2)⟩
theorem de_slA (he : PE X e (eD X.K f)) (hl : PE X a (eD X.K g)) : PE X (.Subscript e (.Slice (some a) none none p2) pos) (eD X.K fun ρ => op2 slAD (f ρ) (g ρ)) :=
  PE.congr (de_slice (fl := fun ρ => (g ρ).bind fun x => (intO x).map some) (fh := fun _ => some none) he (po_some hl) po_none (eo_some fun _ _ h => part_some h) (eo_none fun _ _ h => (Option.some.inj h).symm)) fun ρ d h => by
    obtain ⟨x, y, hx, hy, hz⟩ := op2_some h
    unfold slAD at hz
    cases e : intO y with
    | none => rw [e] at hz; cases hz
    | some i =>
      rw [e] at hz
      simp only [hx, hy, Option.bind_some, e, Option.map_some]
      exact hz
theorem de_slB (he : PE X e (eD X.K f)) (hl : PE X a (eD X.K g)) : PE X (.Subscript e (.Slice none (some a) none p2) pos) (eD X.K fun ρ => op2 slBD (f ρ) (g ρ)) :=
  PE.congr (de_slice (fl := fun _ => some none) (fh := fun ρ => (g ρ).bind fun x => (intO x).map some) he po_none (po_some hl) (eo_none fun _ _ h => (Option.some.inj h).symm) (eo_some fun _ _ h => part_some h)) fun ρ d h => by
    obtain ⟨x, y, hx, hy, hz⟩ := op2_some h
    unfold slBD at hz
    cases e : intO y with
    | none => rw [e] at hz; cases hz
    | some i =>
      rw [e] at hz
      simp only [hx, hy, Option.bind_some, e, Option.map_some]
      exact hz
theorem de_slAB (he : PE X e (eD X.K f)) (hl : PE X a (eD X.K g)) (hh : PE X b (eD X.K k)) : PE X (.Subscript e (.Slice (some a) (some b) none p2) pos) (eD X.K fun ρ => op3 slABD (f ρ) (g ρ) (k ρ)) :=
  PE.congr (de_slice (fl := fun ρ => (g ρ).bind fun x => (intO x).map some) (fh := fun ρ => (k ρ).bind fun x => (intO x).map some) he (po_some hl) (po_some hh) (eo_some fun _ _ h => part_some h) (eo_some fun _ _ h => part_some h)) fun ρ d h => by
    obtain ⟨x, y, z, hx, hy, hz, hr⟩ := op3_some h
    unfold slABD at hr
    cases e : intO y with
    | none => rw [e] at hr; cases hr
    | some i =>
      cases e2 : intO z with
      | none => rw [e, e2] at hr; cases hr
      | some j =>
        rw [e, e2] at hr
        simp only [hx, hy, hz, Option.bind_some, e, e2, Option.map_some]
        exact hr
end
end DL
/-! DL5: dicts, isinstance, ranges, what is walked, comprehensions, calls of defs, by data. -/
namespace DL
open PySem PySem.Spec PyProof.Rows L2
section
variable {X : Cx} {pos p2 : Pos} {f g k : Env → Option D} {a b c e : Expr} {es : List Expr}
/-! ### dicts -/
theorem de_dnew : PE X (.Dict [] [] pos) (eD X.K fun _ => some (.dic [])) :=
  PE.imp (fun σ H Q ⟨B, ρ, d, dm, re, h, q⟩ => by
    cases h
    exact fun p np => q _ _ (Ex.new np) (.dic upd_same (dm.fresh np))) pe_dnewT
theorem dget_of {K : PySem.W.Frag} {B : Addr → Prop} {H : Hp} {m : List ((Int × Int) × Int)} {kd : D} {v u : V} {kk : Int × Int} (rd : Rp K B H (.dic m) v) (rk : Rp K B H kd u) (hk : keyD kd = some kk) :
    ∃ a, v = .ref a ∧ DGet H a u ((dlook m kk).map V.int) := by
  obtain ⟨b, rfl, hb⟩ := keyD_rp rk hk
  cases rd with
  | @dic a _ h1 n1 =>
    refine ⟨a, rfl, ?_⟩
    rw [← dlook_enc]
    exact DGet.t h1 hb
theorem din_some {ng : Bool} {kd dd : D} {z : D} (h : dinD ng kd dd = some z) : ∃ m kk, dd = .dic m ∧ keyD kd = some kk ∧ z = .bl (if ng then !(dlook m kk).isSome else (dlook m kk).isSome) := by
  unfold dinD at h
  split at h
  · rename_i e
    cases h
    exact ⟨_, _, rfl, e, rfl⟩
  · cases h
theorem isSome_map (o : Option Int) : (o.map V.int).isSome = o.isSome := by cases o <;> rfl
theorem din_run {B : Addr → Prop} {ρ : Env} {H : Hp} {σ : L2.St} {d : D} {Q : VK} (dm : Dom B H) (re : RpE X.K B H ρ σ) (h : op2 (dinD false) (f ρ) (g ρ) = some d) (q : ∀ v H', Ex H H' → Rp X.K B H' d v → Q v H') :
    tDIn (eD X.K f) (eD X.K g) σ H Q := by
  obtain ⟨x, y, hx, hy, hz⟩ := op2_some h
  obtain ⟨m, kk, rfl, hk, rfl⟩ := din_some hz
  refine ⟨B, ρ, x, dm, re, hx, fun v H1 e1 rx => ⟨B, ρ, _, dm.mono e1, re.ex e1, hy, fun u H2 e2 ry => ?_⟩⟩
  obtain ⟨a, rfl, hg⟩ := dget_of ry (rx.ex e2) hk
  refine ⟨a, _, rfl, hg, ?_⟩
  rw [isSome_map]
  exact q _ _ (e1.trans e2) (.bl _)
theorem dnin_run {B : Addr → Prop} {ρ : Env} {H : Hp} {σ : L2.St} {d : D} {Q : VK} (dm : Dom B H) (re : RpE X.K B H ρ σ) (h : op2 (dinD true) (f ρ) (g ρ) = some d) (q : ∀ v H', Ex H H' → Rp X.K B H' d v → Q v H') :
    tDNotIn (eD X.K f) (eD X.K g) σ H Q := by
  obtain ⟨x, y, hx, hy, hz⟩ := op2_some h
  obtain ⟨m, kk, rfl, hk, rfl⟩ := din_some hz
  refine ⟨B, ρ, x, dm, re, hx, fun v H1 e1 rx => ⟨B, ρ, _, dm.mono e1, re.ex e1, hy, fun u H2 e2 ry => ?_⟩⟩
  obtain ⟨a, rfl, hg⟩ := dget_of ry (rx.ex e2) hk
  refine ⟨a, _, rfl, hg, ?_⟩
  rw [isSome_map]
  exact q _ _ (e1.trans e2) (.bl _)
theorem de_din (hu : X.A.units + 65 < cLine) (ha : PE X a (eD X.K f)) (hb : PE X b (eD X.K g)) (hm : behindInMarks .In b = false) : PE X (.Compare a [.In] [b] pos) (eD X.K fun ρ => op2 (dinD false) (f ρ) (g ρ)) :=
  PE.imp (fun σ H Q ⟨B, ρ, d, dm, re, h, q⟩ => din_run dm re h q) (pe_cmp (pc_din (by omega) ha hb) hm)
theorem de_dnin (hu : X.A.units + 65 < cLine) (ha : PE X a (eD X.K f)) (hb : PE X b (eD X.K g)) (hm : behindInMarks .NotIn b = false) : PE X (.Compare a [.NotIn] [b] pos) (eD X.K fun ρ => op2 (dinD true) (f ρ) (g ρ)) :=
  PE.imp (fun σ H Q ⟨B, ρ, d, dm, re, h, q⟩ => dnin_run dm re h q) (pe_cmp (pc_dnotin (by omega) ha hb) hm)
theorem dt_din (hu : X.A.units + 65 < cLine) (ha : PE X a (eD X.K f)) (hb : PE X b (eD X.K g)) (hm : behindInMarks .In b = false) : PT X (.Compare a [.In] [b] pos) (eT X.K fun ρ => op2 (dinD false) (f ρ) (g ρ)) :=
  PT.imp (fun σ H Q ⟨B, ρ, d, dm, re, h, q⟩ => din_run dm re h fun v H' e1 r => by
    cases r
    exact ⟨d, rfl, q H' e1⟩) (pt_cmp (pc_din (by omega) ha hb) hm)
theorem dt_dnin (hu : X.A.units + 65 < cLine) (ha : PE X a (eD X.K f)) (hb : PE X b (eD X.K g)) (hm : behindInMarks .NotIn b = false) : PT X (.Compare a [.NotIn] [b] pos) (eT X.K fun ρ => op2 (dinD true) (f ρ) (g ρ)) :=
  PT.imp (fun σ H Q ⟨B, ρ, d, dm, re, h, q⟩ => dnin_run dm re h fun v H' e1 r => by
    cases r
    exact ⟨d, rfl, q H' e1⟩) (pt_cmp (pc_dnotin (by omega) ha hb) hm)
theorem de_dget (hu : X.A.units + 65 < cLine) (ha : PE X a (eD X.K f)) (hb : PE X b (eD X.K g)) (hs : NoSl b) : PE X (.Subscript a b pos) (eD X.K fun ρ => op2 dgetD (f ρ) (g ρ)) :=
  PE.imp (fun σ H Q ⟨B, ρ, d, dm, re, h, q⟩ => by
    obtain ⟨x, y, hx, hy, hz⟩ := op2_some h
    unfold dgetD at hz
    split at hz
    · rename_i m kk hk
      cases el : dlook m kk with
      | none => rw [el] at hz; cases hz
      | some i =>
        rw [el] at hz
        cases hz
        refine ⟨B, ρ, _, dm, re, hx, fun v H1 e1 rx => ⟨B, ρ, y, dm.mono e1, re.ex e1, hy, fun u H2 e2 ry => ?_⟩⟩
        obtain ⟨a, rfl, hg⟩ := dget_of (rx.ex e2) ry hk
        rw [el] at hg
        exact ⟨a, .int i, rfl, hg, q _ _ (e1.trans e2) (.int i)⟩
    · cases hz) (pe_dget (by omega) ha hb hs)
theorem de_dget2 {apos cpos : Pos} (hu : X.A.units + 65 < cLine) (ha : PE X a (eD X.K f)) (hb : PE X b (eD X.K g)) (hc : PE X c (eD X.K k)) (m : M2 X a "get" apos b c cpos) :
    PE X (.Call (.Attribute a "get" apos) [b, c] [] cpos) (eD X.K fun ρ => op3 dget2D (f ρ) (g ρ) (k ρ)) :=
  PE.imp (fun σ H Q ⟨B, ρ, d, dm, re, h, q⟩ => by
    obtain ⟨x, y, z, hx, hy, hz, hr⟩ := op3_some h
    unfold dget2D at hr
    split at hr
    · rename_i m kk hk
      cases hr
      refine ⟨B, ρ, _, dm, re, hx, fun v H1 e1 rx => ?_⟩
      have rx0 := rx
      cases rx0 with
      | @dic a' _ h1 n1 =>
        refine ⟨a', rfl, .inr ⟨_, .inl h1⟩, B, ρ, y, dm.mono e1, re.ex e1, hy, fun u H2 e2 ry => ⟨B, ρ, z, (dm.mono e1).mono e2, (re.ex e1).ex e2, hz, fun t H3 e3 rz => ?_⟩⟩
        obtain ⟨a2, ea, hg⟩ := dget_of ((rx.ex e2).ex e3) (ry.ex e3) hk
        cases ea
        refine ⟨_, hg, ?_⟩
        cases el : dlook m kk with
        | none =>
          rw [el] at q
          exact q _ _ ((e1.trans e2).trans e3) rz
        | some i =>
          rw [el] at q
          exact q _ _ ((e1.trans e2).trans e3) (.int i)
    · cases hr) (pe_dget2 (by omega) ha hb hc m)
/-! ### isinstance -/
theorem de_isi {x1 x2 : Str} {p q : Pos} {T : String} (hg : Gl X x1) (hm : X.mg x1 = none) (hv : bootBuiltins x1 = some (.builtin "isinstance")) (hg2 : Gl X x2) (hm2 : X.mg x2 = none) (hv2 : bootBuiltins x2 = some (.type T)) (hT : T ∈ ["bool", "int", "str", "list", "tuple"])
    (ha : PE X a (eD X.K f)) (hn : x1 ≠ "__name__") (hdb : (x1 == ("__debug__" : Str)) = false) (hn2 : x2 ≠ "__name__") (hdb2 : (x2 == ("__debug__" : Str)) = false)
    (hs : starEach [a, .Name x2 q] X.env = (false, eval a X.env) :: starEach [.Name x2 q] X.env) : PE X (.Call (.Name x1 p) [a, .Name x2 q] [] pos) (eD X.K fun ρ => op1 (fun x => isiD x T) (f ρ)) :=
  PE.imp (fun σ H Q ⟨B, ρ, d, dm, re, h, qq⟩ => by
    obtain ⟨x, hx, hz⟩ := op1_some h
    unfold isiD at hz
    split at hz
    · cases hz
    · rename_i c
      cases hz
      refine ⟨B, ρ, x, dm, re, hx, fun v H1 e1 rx => ⟨v, .ty T, .type (tyName x), .type T, isTy (tyName x) T, rfl, .ty T, tyx_of rx (fun z => c (beq_iff_eq.mpr z)), ?_, qq _ _ e1 (.bl _)⟩⟩
      exact kit_ty (kitB_at _ (tyName_mem x fun z => c (beq_iff_eq.mpr z)) T hT)) (pe_callB call_isi hg hm hv (pa_cons ha (pa_cons (pe_bltn hg2 hm2 hv2 (v := .ty T) rfl hn2 hdb2) pa_nil) hs) hn hdb hs (by rfl))
theorem de_isi2 {x1 x2 x3 : Str} {p q q3 tp : Pos} {kk : Nat} {T U : String} (hg : Gl X x1) (hm : X.mg x1 = none) (hv : bootBuiltins x1 = some (.builtin "isinstance")) (hg2 : Gl X x2) (hm2 : X.mg x2 = none) (hv2 : bootBuiltins x2 = some (.type T)) (hT : T ∈ ["bool", "int", "str", "list", "tuple"])
    (hg3 : Gl X x3) (hm3 : X.mg x3 = none) (hv3 : bootBuiltins x3 = some (.type U)) (hU : U ∈ ["bool", "int", "str", "list", "tuple"])
    (ha : PE X a (eD X.K f)) (hn : x1 ≠ "__name__") (hdb : (x1 == ("__debug__" : Str)) = false) (hn2 : x2 ≠ "__name__") (hdb2 : (x2 == ("__debug__" : Str)) = false) (hn3 : x3 ≠ "__name__") (hdb3 : (x3 == ("__debug__" : Str)) = false)
    (hs : starEach [a, .Tuple [.Name x2 q, .Name x3 q3] kk tp] X.env = (false, eval a X.env) :: starEach [.Tuple [.Name x2 q, .Name x3 q3] kk tp] X.env) :
    PE X (.Call (.Name x1 p) [a, .Tuple [.Name x2 q, .Name x3 q3] kk tp] [] pos) (eD X.K fun ρ => op1 (fun x => if tyName x == "?" then none else some (.bl (isTy (tyName x) T || isTy (tyName x) U))) (f ρ)) :=
  PE.imp (fun σ H Q ⟨B, ρ, d, dm, re, h, qq⟩ => by
    obtain ⟨x, hx, hz⟩ := op1_some h
    split at hz
    · cases hz
    · rename_i c
      cases hz
      refine ⟨B, ρ, x, dm, re, hx, fun v H1 e1 rx => ⟨by show 2 ≤ sizeLine; decide, fun tp np => ?_⟩⟩
      have hx2 : tyName x ≠ "?" := fun z => c (beq_iff_eq.mpr z)
      have k1 := kit_ty (K := X.K) (kitB_at _ (tyName_mem x hx2) T hT)
      have k2 := kit_ty (K := X.K) (kitB_at _ (tyName_mem x hx2) U hU)
      refine ⟨v, tp, [.ty T, .ty U], .type (tyName x), [.type T, .type U], isTy (tyName x) T || isTy (tyName x) U, rfl, upd_same, .cons (.ty T) (.cons (.ty U) .nil), tyx_of (rx.ex (Ex.new np)) hx2, ?_, qq _ _ (e1.trans (Ex.new np)) (.bl _)⟩
      refine kitAny_cons k1 (fun hb => ?_) fun hb => by rw [hb]; rfl
      rw [hb]
      refine kitAny_cons k2 (fun hb2 => ?_) fun hb2 => by rw [hb2]; rfl
      rw [hb2]
      exact kitAny_nil) (pe_callB call_isiT hg hm hv (pa_cons ha (pa_cons (pe_tup (pa_cons (pe_bltn hg2 hm2 hv2 (v := .ty T) rfl hn2 hdb2) (pa_cons (pe_bltn hg3 hm3 hv3 (v := .ty U) rfl hn3 hdb3) pa_nil))) pa_nil) hs) hn hdb hs (by rfl))
/-! ### list(range(n)), tuple(range(n)) -/
theorem rngL_rp {K : PySem.W.Frag} {B : Addr → Prop} {H : Hp} (lo hi : Int) : RpL K B H (rngD lo hi) (rgV lo hi) := by
  unfold rngD rgV
  generalize (hi - lo).toNat = n
  have gen : ∀ l : List Nat, RpL K B H (l.map fun i => D.int (lo + (i : Nat))) (l.map fun i => V.int (lo + (i : Nat))) := by
    intro l
    induction l with
    | nil => exact .nil
    | cons x l ih => exact .cons (.int _) ih
  exact gen _
theorem rgOk0 {n : Int} (h0 : 0 ≤ n) (h1 : n ≤ 100000) : RgOk 0 n := RgOk.of_le (by decide) (by omega) (by decide) h0
theorem de_lrng {x1 x2 : Str} {p q p3 : Pos} (hc : X.calm = true) (e1 : x1 = "list") (e2 : x2 = "range") (hg : Gl X x1) (hm : X.mg x1 = none) (hg2 : Gl X x2) (hm2 : X.mg x2 = none) (ha : PE X a (eD X.K f))
    (hs : starEach [a] X.env = (false, eval a X.env) :: starEach [] X.env) : PE X (.Call (.Name x1 p) [.Call (.Name x2 q) [a] [] p3] [] pos) (eD X.K fun ρ => op1 lrngD (f ρ)) := by
  subst e1 e2
  exact PE.imp (fun σ H Q ⟨B, ρ, d, dm, re, h, qq⟩ => by
    obtain ⟨x, hx, hz⟩ := op1_some h
    unfold lrngD at hz
    split at hz
    · split at hz
      · rename_i n c
        cases hz
        rw [Bool.and_eq_true, decide_eq_true_eq, decide_eq_true_eq] at c
        refine ⟨B, ρ, _, dm, re, hx, fun v H1 e1 rx => ?_⟩
        cases rx
        exact ⟨n, rfl, rgOk0 c.1 c.2, fun q' nq => qq _ _ (e1.trans (Ex.new nq)) (.lst upd_same ((dm.mono e1).fresh nq) (rngL_rp 0 n))⟩
      · cases hz
    · cases hz) (pe_listRg hc hg hm (prg_1 hg2 hm2 ha hs) (by rfl))
theorem de_trng {x1 x2 : Str} {p q p3 : Pos} (hc : X.calm = true) (e1 : x1 = "tuple") (e2 : x2 = "range") (hg : Gl X x1) (hm : X.mg x1 = none) (hg2 : Gl X x2) (hm2 : X.mg x2 = none) (ha : PE X a (eD X.K f))
    (hs : starEach [a] X.env = (false, eval a X.env) :: starEach [] X.env) : PE X (.Call (.Name x1 p) [.Call (.Name x2 q) [a] [] p3] [] pos) (eD X.K fun ρ => op1 trngD (f ρ)) := by
  subst e1 e2
  exact PE.imp (fun σ H Q ⟨B, ρ, d, dm, re, h, qq⟩ => by
    obtain ⟨x, hx, hz⟩ := op1_some h
    unfold trngD at hz
    split at hz
    · split at hz
      · rename_i n c
        cases hz
        rw [Bool.and_eq_true, decide_eq_true_eq, decide_eq_true_eq] at c
        refine ⟨B, ρ, _, dm, re, hx, fun v H1 e1 rx => ?_⟩
        cases rx
        exact ⟨n, rfl, rgOk0 c.1 c.2, fun q' nq => qq _ _ (e1.trans (Ex.new nq)) (.tup upd_same ((dm.mono e1).fresh nq) (rngL_rp 0 n))⟩
      · cases hz
    · cases hz) (pe_tupRg hc hg hm (prg_1 hg2 hm2 ha hs) (by rfl))
/-! ### what is walked -/
theorem wk_list {K : PySem.W.Frag} {B : Addr → Prop} {H : Hp} {a : Addr} {vs : List V} {ds : List D} (h : H a = some (.lst vs)) (n : ¬ B a) (r : RpL K B H ds vs) : WkD K B (Itl K a) H ds := by
  unfold WkD
  rw [r.length]
  exact walk_list.mono (fun H' hG => .of (hG _ _ n h)) fun i H1 x H2 _ hG ⟨e, hx⟩ => ⟨e ▸ Ex.refl _, fun d hd B' hb' dm' => by
    obtain ⟨v, hv, rv⟩ := r.get hd
    rw [hx] at hv
    cases hv
    rw [e]
    exact rv.mono hG hb'⟩
theorem wk_tup {K : PySem.W.Frag} {B : Addr → Prop} {H : Hp} {a : Addr} {vs : List V} {ds : List D} (h : H a = some (.tup vs)) (n : ¬ B a) (r : RpL K B H ds vs) : WkD K B (Itt K a) H ds := by
  unfold WkD
  rw [r.length]
  exact walk_tup.mono (fun H' hG => .of (hG _ _ n h)) fun i H1 x H2 _ hG ⟨e, hx⟩ => ⟨e ▸ Ex.refl _, fun d hd B' hb' dm' => by
    obtain ⟨v, hv, rv⟩ := r.get hd
    rw [hx] at hv
    cases hv
    rw [e]
    exact rv.mono hG hb'⟩
theorem wk_rng {K : PySem.W.Frag} {B : Addr → Prop} {H : Hp} {lo hi : Int} : WkD K B (Itr lo (hi - lo).toNat) H (rngD lo hi) := by
  unfold WkD
  have hl : (rngD lo hi).length = (hi - lo).toNat := by
    unfold rngD
    rw [List.length_map, List.length_range]
  rw [hl]
  refine walk_range.mono (fun H' hG => trivial) fun i H1 x H2 hi2 hG ⟨e, hx⟩ => ⟨e ▸ Ex.refl _, fun d hd B' hb' dm' => ?_⟩
  unfold rngD at hd
  rw [List.getElem?_map, List.getElem?_range hi2] at hd
  cases hd
  rw [hx]
  exact .int _
theorem enmL_get : ∀ (ds : List D) (j i : Nat), (enmL j ds)[i]? = (ds[i]?).map fun d => D.tup [.int ((j + i : Nat) : Int), d]
  | [], j, i => by simp [enmL]
  | d :: ds, j, 0 => by simp [enmL]
  | d :: ds, j, i + 1 => by
    show (enmL (j + 1) ds)[i]? = (ds[i]?).map _
    rw [enmL_get ds (j + 1) i, show j + 1 + i = j + (i + 1) by omega]
theorem enmL_len : ∀ (ds : List D) (j : Nat), (enmL j ds).length = ds.length
  | [], _ => rfl
  | d :: ds, j => congrArg (· + 1) (enmL_len ds (j + 1))
theorem pair_rp {K : PySem.W.Frag} {B : Addr → Prop} {H H2 : Hp} {T : Addr} {x y : V} {d d' : D} (dm : Dom B H) (nT : H T = none) (e : H2 = upd H T (.tup [x, y])) (rx : Rp K B H d x) (ry : Rp K B H d' y) : Rp K B H2 (.tup [d, d']) (.ref T) := by
  subst e
  exact .tup upd_same (dm.fresh nT) (.cons (rx.ex (Ex.new nT)) (.cons (ry.ex (Ex.new nT)) .nil))
theorem wk_enumL {K : PySem.W.Frag} {B : Addr → Prop} {H : Hp} {a : Addr} {vs : List V} {ds : List D} (h : H a = some (.lst vs)) (n : ¬ B a) (r : RpL K B H ds vs) : WkD K B (Ite K a) H (enmL 0 ds) := by
  unfold WkD
  rw [enmL_len, r.length]
  refine walk_enum.mono (fun H' hG => .of (hG _ _ n h)) fun i H1 x H2 _ hG ⟨T, x', y', e1, nT, e2, hx, hy⟩ => ⟨e2 ▸ Ex.new nT, fun d hd B' hb' dm' => ?_⟩
  rw [enmL_get, Nat.zero_add] at hd
  cases e3 : ds[i]? with
  | none => rw [e3] at hd; cases hd
  | some d' =>
    rw [e3] at hd
    cases hd
    obtain ⟨v, hv, rv⟩ := r.get e3
    cases hv.symm.trans hy
    cases hx
    subst e1
    exact pair_rp dm' nT e2 (.int _) (rv.mono hG hb')
theorem walk_enumT {K : PySem.W.Frag} {a : Addr} {xs : List V} : Walk (IteT K a) xs.length (fun H => SqT K H a xs) (YPair (fun i => some (.int (i : Nat))) (fun i => xs[i]?)) where
  goes := fun i H hi h => ⟨xs, xs[i], h, List.getElem?_eq_getElem hi⟩
  stops := fun H h => ⟨xs, h, Nat.le_refl _⟩
  yields := fun i H v H' hi h ⟨T, x, e, nT, e2, hx⟩ => ⟨T, _, x, e, nT, e2, rfl, hx xs h⟩
theorem wk_enumT {K : PySem.W.Frag} {B : Addr → Prop} {H : Hp} {a : Addr} {vs : List V} {ds : List D} (h : H a = some (.tup vs)) (n : ¬ B a) (r : RpL K B H ds vs) : WkD K B (IteT K a) H (enmL 0 ds) := by
  unfold WkD
  rw [enmL_len, r.length]
  refine walk_enumT.mono (fun H' hG => .of (hG _ _ n h)) fun i H1 x H2 _ hG ⟨T, x', y', e1, nT, e2, hx, hy⟩ => ⟨e2 ▸ Ex.new nT, fun d hd B' hb' dm' => ?_⟩
  rw [enmL_get, Nat.zero_add] at hd
  cases e3 : ds[i]? with
  | none => rw [e3] at hd; cases hd
  | some d' =>
    rw [e3] at hd
    cases hd
    obtain ⟨v, hv, rv⟩ := r.get e3
    cases hv.symm.trans hy
    cases hx
    subst e1
    exact pair_rp dm' nT e2 (.int _) (rv.mono hG hb')
theorem zipL_get : ∀ (xs ys : List D) (i : Nat), (zipL xs ys)[i]? = (xs[i]?).bind fun x => (ys[i]?).map fun y => D.tup [x, y]
  | [], _, i => by simp [zipL]
  | x :: xs, [], i => by
    cases (x :: xs)[i]? <;> simp [zipL]
  | x :: xs, y :: ys, 0 => by simp [zipL]
  | x :: xs, y :: ys, i + 1 => by
    show (zipL xs ys)[i]? = _
    rw [zipL_get xs ys i]
    rfl
theorem zipL_len : ∀ (xs ys : List D), (zipL xs ys).length = min xs.length ys.length
  | [], _ => by simp [zipL]
  | x :: xs, [] => by simp [zipL]
  | x :: xs, y :: ys => by
    show (zipL xs ys).length + 1 = _
    rw [zipL_len xs ys]
    simp only [List.length_cons]
    omega
theorem wk_zip {K : PySem.W.Frag} {B : Addr → Prop} {H : Hp} {J : It} {G : Hp → Prop} {vs us : List V} {xs ys : List D} (w : Walk J (min vs.length us.length) G (YPair (fun i => vs[i]?) (fun i => us[i]?))) (hG : ∀ H', ExB B H H' → G H')
    (r : RpL K B H xs vs) (r2 : RpL K B H ys us) : WkD K B J H (zipL xs ys) := by
  unfold WkD
  rw [zipL_len, r.length, r2.length]
  refine w.mono (fun H' h => hG H' h) fun i H1 x H2 _ hG ⟨T, x', y', e1, nT, e2, hx, hy⟩ => ⟨e2 ▸ Ex.new nT, fun d hd B' hb' dm' => ?_⟩
  rw [zipL_get] at hd
  cases e3 : xs[i]? with
  | none => rw [e3] at hd; cases hd
  | some d1 =>
    cases e4 : ys[i]? with
    | none => rw [e3, e4] at hd; cases hd
    | some d2 =>
      rw [e3, e4] at hd
      cases hd
      obtain ⟨v, hv, rv⟩ := r.get e3
      obtain ⟨u, hu, ru⟩ := r2.get e4
      cases hv.symm.trans hx
      cases hu.symm.trans hy
      subst e1
      exact pair_rp dm' nT e2 (rv.mono hG hb') (ru.mono hG hb')
theorem items_some {o : Option D} {ds : List D} (h : itemsO o = some ds) : o = some (.lst ds) ∨ o = some (.tup ds) := by
  unfold itemsO at h
  split at h
  · cases h; exact .inl rfl
  · cases h; exact .inr rfl
  · cases h
/-- a list or a tuple -/
theorem di_seq {tg : Expr} (he : PE X e (eD X.K f)) : PI X tg e (eI X.K fun ρ => itemsO (f ρ)) := by
  refine ⟨fun pins s σ H R I ⟨B, ρ, ds, dm, re, h, q⟩ => ?_⟩
  rcases items_some h with h | h
  · refine (pi_list he).run pins s σ H R I ⟨B, ρ, _, dm, re, h, fun v H1 e1 r => ?_⟩
    cases r with
    | @lst a vs _ h1 n1 r1 => exact ⟨a, rfl, ⟨vs, .of h1⟩, q _ _ e1 (wk_list h1 n1 r1)⟩
  · refine (pi_tup he).run pins s σ H R I ⟨B, ρ, _, dm, re, h, fun v H1 e1 r => ?_⟩
    cases r with
    | @tup a vs _ h1 n1 r1 => exact ⟨a, rfl, ⟨vs, .of h1⟩, q _ _ e1 (wk_tup h1 n1 r1)⟩
theorem rng1_some {x : D} {d : D} (h : rng1D x = some d) : ∃ n, x = .int n ∧ d = .lst (rngD 0 n) ∧ -(2 ^ 62) ≤ n ∧ n < 2 ^ 62 := by
  unfold rng1D at h
  split at h
  · split at h
    · rename_i c
      cases h
      unfold r62 at c
      rw [Bool.and_eq_true, decide_eq_true_eq, decide_eq_true_eq] at c
      exact ⟨_, rfl, rfl, c.1, c.2⟩
    · cases h
  · cases h
theorem rng2_some {x y : D} {d : D} (h : rng2D x y = some d) : ∃ n m, x = .int n ∧ y = .int m ∧ d = .lst (rngD n m) ∧ -(2 ^ 62) ≤ n ∧ n < 2 ^ 62 ∧ -(2 ^ 62) ≤ m ∧ m < 2 ^ 62 := by
  unfold rng2D at h
  split at h
  · split at h
    · rename_i c
      cases h
      unfold r62 at c
      simp only [Bool.and_eq_true, decide_eq_true_eq] at c
      exact ⟨_, _, rfl, rfl, rfl, c.1.1, c.1.2, c.2.1, c.2.2⟩
    · cases h
  · cases h
theorem di_rng1 {tg : Expr} {x : Str} {p : Pos} (ex : x = "range") (hg : Gl X x) (hm : X.mg x = none) (ha : PE X a (eD X.K f)) (hs : starEach [a] X.env = (false, eval a X.env) :: starEach [] X.env) :
    PI X tg (.Call (.Name x p) [a] [] pos) (eI X.K fun ρ => itemsO (op1 rng1D (f ρ))) := by
  subst ex
  refine PI.imp (fun σ H R ⟨B, ρ, ds, dm, re, h, q⟩ => ?_) (pi_range1 hg hm (pa_cons ha pa_nil hs) hs)
  rcases items_some h with h | h
  · obtain ⟨y, hy, hz⟩ := op1_some h
    obtain ⟨n, rfl, e2, b1, b2⟩ := rng1_some hz
    cases e2
    refine ⟨B, ρ, _, dm, re, hy, fun v H1 e1 r => ?_⟩
    cases r
    refine ⟨n, rfl, b1, b2, q _ _ e1 ?_⟩
    have := wk_rng (K := X.K) (B := B) (H := H1) (lo := 0) (hi := n)
    rw [Int.sub_zero] at this
    exact this
  · obtain ⟨y, hy, hz⟩ := op1_some h
    obtain ⟨n, rfl, e2, _⟩ := rng1_some hz
    cases e2
theorem di_rng2 {tg : Expr} {x : Str} {p : Pos} (ex : x = "range") (hg : Gl X x) (hm : X.mg x = none) (ha : PE X a (eD X.K f)) (hb : PE X b (eD X.K g)) (hs : starEach [a, b] X.env = (false, eval a X.env) :: starEach [b] X.env)
    (hs2 : starEach [b] X.env = (false, eval b X.env) :: starEach [] X.env) : PI X tg (.Call (.Name x p) [a, b] [] pos) (eI X.K fun ρ => itemsO (op2 rng2D (f ρ) (g ρ))) := by
  subst ex
  refine PI.imp (fun σ H R ⟨B, ρ, ds, dm, re, h, q⟩ => ?_) (pi_range2 hg hm (pa_cons ha (pa_cons hb pa_nil hs2) hs) (hs.trans (congrArg _ hs2)) hs2)
  rcases items_some h with h | h
  · obtain ⟨y, z, hy, hy2, hz⟩ := op2_some h
    obtain ⟨n, m, rfl, rfl, e2, b1, b2, b3, b4⟩ := rng2_some hz
    cases e2
    refine ⟨B, ρ, _, dm, re, hy, fun v H1 e1 r => ?_⟩
    cases r
    refine ⟨B, ρ, _, dm.mono e1, re.ex e1, hy2, fun u H2 e3 r2 => ?_⟩
    cases r2
    exact ⟨n, m, rfl, ⟨b1, b2, b3, b4⟩, q _ _ (e1.trans e3) wk_rng⟩
  · obtain ⟨y, z, hy, hy2, hz⟩ := op2_some h
    obtain ⟨n, m, rfl, rfl, e2, _⟩ := rng2_some hz
    cases e2
theorem enm_some {x : D} {d : D} (h : enmD x = some d) : ∃ ds, (x = .lst ds ∨ x = .tup ds) ∧ d = .lst (enmL 0 ds) := by
  unfold enmD seqD at h
  split at h
  · cases h; exact ⟨_, .inl rfl, rfl⟩
  · cases h; exact ⟨_, .inr rfl, rfl⟩
  · cases h
def iEnumA (K : PySem.W.Frag) (ta : TA) : TI := fun σ H R => ta σ H fun vs H1 => ∃ a xs, vs = [.ref a] ∧ SqT K H1 a xs ∧ R (IteT K a) H1
theorem pi_enumT {p tpos : Pos} {elts : List Expr} {kk : Nat} {ta : TA} (hg : Gl X "enumerate") (hm : X.mg "enumerate" = none) (ha : PA X [e] ta) (hs : starEach [e] X.env = [(false, eval e X.env)]) :
    PI X (.Tuple elts kk tpos) (.Call (.Name "enumerate" p) [e] [] pos) (iEnumA X.K ta) := by
  refine ⟨fun pins s σ H R I h => ?_⟩
  refine Call_ (ld_blt I hg hm boot_enumerate (PyProof.Rows.callWith_type1 (thn (ha.run pos pins s σ H _ I h) fun us s1 ⟨vs, H1, I1, r1, q1⟩ => ?_) hs rfl))
  obtain ⟨a, xs, ex, hq, q⟩ := q1
  subst ex
  rw [Vals.ref1 r1]
  obtain ⟨its, rv, pt, hz⟩ := I1.tuple hq
  have hT : s1.heap.IsTuple a its.toArray := pt
  have hla : a < s1.heap.objs.size := by
    obtain ⟨o, eo, _⟩ := hT
    exact Heap.lt_size eo
  refine enum1_begins (begins_tuple a its.toArray) hT fun h' he hit hk => wpAny_pyIter_enum he ?_
  have I2 : Inv X pins σ H1 { s1 with heap := h' } := I1.kept (t' := s1.toks) hk
  refine ⟨s1.heap.objs.size + 1, [s1.heap.objs.size + 1, s1.heap.objs.size], _, _, H1, rfl, I2, turn_enumT a (s1.heap.objs.size + 1) s1.heap.objs.size, ⟨⟨.none, he⟩, ⟨_, hit, rfl, rfl⟩, Nat.succ_ne_self _, Nat.ne_of_lt hla, Nat.ne_of_lt (Nat.lt_succ_of_lt hla)⟩, fun b hb => ?_, q⟩
  have hle : s1.heap.objs.size ≤ b := by
    rcases List.mem_cons.mp hb with z | z
    · rw [z]; exact Nat.le_add_right _ _
    · rw [List.mem_singleton.mp z]; exact Nat.le_refl _
  exact I1.fpOk hle (I1.hok.fresh hle)
theorem di_enm {x : Str} {p tpos : Pos} {elts : List Expr} {kk : Nat} (ex : x = "enumerate") (hg : Gl X x) (hm : X.mg x = none) (ha : PE X a (eD X.K f)) (hs : starEach [a] X.env = (false, eval a X.env) :: starEach [] X.env) :
    PI X (.Tuple elts kk tpos) (.Call (.Name x p) [a] [] pos) (eI X.K fun ρ => itemsO (op1 enmD (f ρ))) := by
  subst ex
  refine ⟨fun pins s σ H R I ⟨B, ρ, ds, dm, re, h, q⟩ => ?_⟩
  have hh : ∃ ds', (f ρ = some (.lst ds') ∨ f ρ = some (.tup ds')) ∧ ds = enmL 0 ds' := by
    rcases items_some h with h | h
    · obtain ⟨y, hy, hz⟩ := op1_some h
      obtain ⟨ds', h1, h2⟩ := enm_some hz
      cases h2
      refine ⟨ds', ?_, rfl⟩
      rcases h1 with h1 | h1
      · exact .inl (h1 ▸ hy)
      · exact .inr (h1 ▸ hy)
    · obtain ⟨y, hy, hz⟩ := op1_some h
      obtain ⟨ds', h1, h2⟩ := enm_some hz
      cases h2
  obtain ⟨ds', h1, rfl⟩ := hh
  rcases h1 with h1 | h1
  · refine (pi_enum hg hm (pa_cons ha pa_nil hs) hs).run pins s σ H R I ⟨B, ρ, _, dm, re, h1, fun v H1 e1 r => ?_⟩
    cases r with
    | @lst a vs _ h2 n2 r2 => exact ⟨a, vs, rfl, .of h2, q _ _ e1 (wk_enumL h2 n2 r2)⟩
  · refine (pi_enumT hg hm (pa_cons ha pa_nil hs) hs).run pins s σ H R I ⟨B, ρ, _, dm, re, h1, fun v H1 e1 r => ?_⟩
    cases r with
    | @tup a vs _ h2 n2 r2 => exact ⟨a, vs, rfl, .of h2, q _ _ e1 (wk_enumT h2 n2 r2)⟩
theorem zp_some {x y : D} {d : D} (h : zpD x y = some d) : ∃ xs ys, ((x = .lst xs ∧ y = .lst ys) ∨ (x = .tup xs ∧ y = .tup ys)) ∧ d = .lst (zipL xs ys) := by
  unfold zpD at h
  split at h
  · cases h; exact ⟨_, _, .inl ⟨rfl, rfl⟩, rfl⟩
  · cases h; exact ⟨_, _, .inr ⟨rfl, rfl⟩, rfl⟩
  · cases h
theorem walk_zipT {K : PySem.W.Frag} {a b : Addr} {xs ys : List V} : Walk (RZ.ItzT K a b) (min xs.length ys.length) (fun H => SqT K H a xs ∧ SqT K H b ys) (YPair (fun i => xs[i]?) (fun i => ys[i]?)) where
  goes := fun i H hi h => ⟨xs, ys, xs[i], ys[i], h.1, h.2, List.getElem?_eq_getElem _, List.getElem?_eq_getElem _⟩
  stops := fun H h => ⟨xs, ys, h.1, h.2, by omega⟩
  yields := fun i H v H' hi h ⟨T, x, y, e, nT, e2, hx, hy⟩ => ⟨T, x, y, e, nT, e2, hx xs h.1, hy ys h.2⟩
theorem di_zp {x : Str} {p tpos : Pos} {elts : List Expr} {kk : Nat} (ex : x = "zip") (hg : Gl X x) (hm : X.mg x = none) (ha : PE X a (eD X.K f)) (hb : PE X b (eD X.K g)) (hs : starEach [a, b] X.env = (false, eval a X.env) :: starEach [b] X.env)
    (hs2 : starEach [b] X.env = (false, eval b X.env) :: starEach [] X.env) (hpl : (backTo pos (starEach [b] X.env)).any (·.1) = false) :
    PI X (.Tuple elts kk tpos) (.Call (.Name x p) [a, b] [] pos) (eI X.K fun ρ => itemsO (op2 zpD (f ρ) (g ρ))) := by
  subst ex
  refine PI.imp (fun σ H R ⟨B, ρ, ds, dm, re, h, q⟩ => ?_) (RZ.pi_zipA hg hm (pa_cons ha (pa_cons hb pa_nil hs2) hs) hs hpl)
  have hh : ∃ y z, f ρ = some y ∧ g ρ = some z ∧ zpD y z = some (.lst ds) := by
    rcases items_some h with h | h
    · obtain ⟨y, z, hy, hy2, hz⟩ := op2_some h
      exact ⟨y, z, hy, hy2, hz⟩
    · obtain ⟨y, z, hy, hy2, hz⟩ := op2_some h
      obtain ⟨xs, ys, _, h2⟩ := zp_some hz
      cases h2
  obtain ⟨y, z, hy, hy2, hz⟩ := hh
  obtain ⟨xs, ys, h1, h2⟩ := zp_some hz
  cases h2
  refine ⟨B, ρ, _, dm, re, hy, fun v H1 e1 r => ⟨B, ρ, _, dm.mono e1, re.ex e1, hy2, fun u H2 e3 r2 => ?_⟩⟩
  rcases h1 with ⟨rfl, rfl⟩ | ⟨rfl, rfl⟩
  · have r' := r.ex e3
    cases r' with
    | @lst a vs _ h2 n2 r3 =>
      cases r2 with
      | @lst b us _ h4 n4 r4 =>
        refine ⟨a, b, vs, us, rfl, .inl ⟨.of h2, .of h4, q _ _ (e1.trans e3) ?_⟩⟩
        exact wk_zip (walk_zip rfl) (fun H' hG => ⟨.of (hG _ _ n2 h2), .of (hG _ _ n4 h4)⟩) r3 r4
  · have r' := r.ex e3
    cases r' with
    | @tup a vs _ h2 n2 r3 =>
      cases r2 with
      | @tup b us _ h4 n4 r4 =>
        refine ⟨a, b, vs, us, rfl, .inr ⟨.of h2, .of h4, q _ _ (e1.trans e3) ?_⟩⟩
        exact wk_zip walk_zipT (fun H' hG => ⟨.of (hG _ _ n2 h2), .of (hG _ _ n4 h4)⟩) r3 r4
end
end DL
/-! DL6: comprehensions, calls of defs, by data. -/
namespace DL
open PySem PySem.Spec PyProof.Rows L2

/-- a target by data -/
def TgD (K : PySem.W.Frag) (g : TG) (tg : List Nat) (pair : Bool) : Prop :=
  ∀ (B : Addr → Prop) (H : Hp) (d : D) (v : V) (ρ ρ' : Env) (σ : L2.St) (Q : L2.St → Hp → Prop), RpE K B H ρ σ → Rp K B H d v → bindT ρ tg pair d = some ρ' →
    (∀ σ', RpE K B H ρ' σ' → (∀ vs : List Nat, (∀ i ∈ tg, i ∈ vs) → wipe σ' vs = wipe σ vs) → Q σ' H) → g v σ H Q
theorem tg_name {K : PySem.W.Frag} (j : Nat) : TgD K (gName j) [j] false := by
  intro B H d v ρ ρ' σ Q re r h q
  cases h
  exact q _ (re.set j r) fun vs hv => wipe_set_mem σ (hv j List.mem_cons_self)
def gsOf : List Nat → TGs
  | [] => gNil
  | j :: js => gCons (gName j) (gsOf js)
theorem tgs_ok {K : PySem.W.Frag} {B : Addr → Prop} {H : Hp} : ∀ (tg : List Nat) {ds : List D} {vs : List V} {ρ ρ' : Env} {σ : L2.St} {Q : L2.St → Hp → Prop}, RpE K B H ρ σ → RpL K B H ds vs → setAll ρ tg ds = some ρ' →
    (∀ σ', RpE K B H ρ' σ' → (∀ ws : List Nat, (∀ i ∈ tg, i ∈ ws) → wipe σ' ws = wipe σ ws) → Q σ' H) → gsOf tg vs σ H Q
  | [], [], _, ρ, ρ', σ, Q, re, .nil, h, q => by
    cases h
    exact ⟨rfl, q σ re fun _ _ => rfl⟩
  | [], _ :: _, _, ρ, ρ', σ, Q, re, .cons _ _, h, q => by cases h
  | j :: js, [], _, ρ, ρ', σ, Q, re, .nil, h, q => by cases h
  | j :: js, d :: ds, _, ρ, ρ', σ, Q, re, .cons (v := v) (vs := vs) r t, h, q => by
    refine ⟨v, vs, rfl, ?_⟩
    exact tgs_ok js (re.set j r) t h fun σ' re' hw => q σ' re' fun ws hws => by
      rw [hw ws fun i hi => hws i (List.mem_cons_of_mem _ hi), wipe_set_mem σ (hws j List.mem_cons_self)]
theorem setAll_len : ∀ {tg : List Nat} {ds : List D} {ρ ρ' : Env}, setAll ρ tg ds = some ρ' → tg.length = ds.length
  | [], [], _, _, _ => rfl
  | [], _ :: _, _, _, h => by cases h
  | _ :: _, [], _, _, h => by cases h
  | _ :: js, _ :: ds, _, _, h => congrArg (· + 1) (setAll_len h)
theorem tg_tup {K : PySem.W.Frag} (tg : List Nat) : TgD K (gTup K tg.length (gsOf tg)) tg true := by
  intro B H d v ρ ρ' σ Q re r h q
  cases d <;> first | (simp [bindT] at h; done) | skip
  rename_i ds
  cases r with
  | @tup a vs _ h1 n1 r1 =>
    have h' : setAll ρ tg ds = some ρ' := h
    exact ⟨a, vs, rfl, .of h1, by rw [← r1.length]; exact (setAll_len h').symm, tgs_ok tg re r1 h' q⟩

def upB (B : Addr → Prop) (p : Addr) : Addr → Prop := fun a => B a ∨ a = p
theorem upB_new {B : Addr → Prop} {H : Hp} {p : Addr} (np : H p = none) : ∀ a, upB B p a → B a ∨ H a = none := fun a h => h.imp id fun (e : a = p) => by rw [e]; exact np
theorem Ex.mut {H H' : Hp} {p : Addr} {o : HO} (e : Ex H H') (h : H p = none) : Ex H (upd H' p o) := fun a u ha => by
  rw [upd_ne (ne_of_none ha h)]
  exact e a u ha
theorem ExB.upd {B : Addr → Prop} {H : Hp} {p : Addr} {o : HO} (h : B p) : ExB B H (upd H p o) := fun a u n ha => by
  rw [upd_ne]
  · exact ha
  · intro e
    subst e
    exact n h
theorem test_some {t e : Option D} {r : Option D} (h : testD t e = some r) : (t = some (.bl true) ∧ ∃ x, e = some x ∧ r = some x) ∨ (t = some (.bl false) ∧ r = none) := by
  unfold testD at h
  split at h
  · split at h
    · cases h
      exact .inl ⟨rfl, _, rfl, rfl⟩
    · cases h
  · cases h
    exact .inr ⟨rfl, rfl⟩
  · cases h
theorem onE_some {o : Option Env} {g : Env → Option (Option D)} {r : Option D} (h : onE o g = some r) : ∃ ρ, o = some ρ ∧ g ρ = some r := by
  unfold onE at h
  split at h
  · exact ⟨_, rfl, h⟩
  · cases h
theorem compL_cons {F : D → Option (Option D)} {d : D} {ds r : List D} (h : compL F (d :: ds) = some r) : (F d = some none ∧ compL F ds = some r) ∨ ∃ x r', F d = some (some x) ∧ compL F ds = some r' ∧ r = x :: r' := by
  simp only [compL] at h
  split at h
  · rename_i h1 h2
    cases h
    exact .inl ⟨h1, h2⟩
  · rename_i h1 h2
    cases h
    exact .inr ⟨_, _, h1, h2, rfl⟩
  · cases h
theorem cap_some {o : Option (List D)} {ds : List D} (h : capI o = some ds) : o = some ds ∧ ds.length ≤ 4096 := by
  unfold capI at h
  split at h
  · split at h
    · cases h
      exact ⟨rfl, by assumption⟩
    · cases h
  · cases h
theorem onI_some {o : Option (List D)} {g : List D → Option (List D)} {r : List D} (h : onI o g = some r) : ∃ ds, o = some ds ∧ g ds = some r := by
  unfold onI at h
  split at h
  · exact ⟨_, rfl, h⟩
  · cases h
theorem capL_some {o : Option (List D)} {d : D} (h : capL o = some d) : ∃ ds, o = some ds ∧ d = .lst ds := by
  unfold capL at h
  split at h
  · cases h
    exact ⟨_, rfl, rfl⟩
  · cases h
section
variable {X : Cx} {f : Env → Option (List D)} {t k : Env → Option D}
/-- what stands at Dl while a comprehension runs -/
def Made (K : PySem.W.Frag) (B : Addr → Prop) (H1 : Hp) (Dl : Addr) (F : D → Option (Option D)) (all : List D) (n : Nat) (left : List D) (H' : Hp) : Prop :=
  Ex H1 H' ∧ ∃ (acc : List V) (ds rest : List D), H' Dl = some (.lst acc) ∧ RpL K (upB B Dl) H' ds acc ∧ ds.length ≤ n ∧ compL F left = some rest ∧ all = ds ++ rest
theorem RpL.snoc {K : PySem.W.Frag} {B : Addr → Prop} {H : Hp} {ds : List D} {vs : List V} {d : D} {v : V} (r : RpL K B H ds vs) (s : Rp K B H d v) : RpL K B H (ds ++ [d]) (vs ++ [v]) := r.append (.cons s .nil)
theorem made_turn {K : PySem.W.Frag} {B : Addr → Prop} {H1 H' : Hp} {Dl : Addr} {all : List D} {n : Nat} {d : D} {left : List D} {v : V} {g : TG} {tgs : List Nat} {pair : Bool} {ρ : Env} {σ : L2.St} {vs : List Nat}
    (dm : Dom B H1) (nD : H1 Dl = none) (re : RpE K B H1 ρ σ) (hgd : TgD K g tgs pair) (hsub : ∀ i ∈ tgs, i ∈ vs) (hn : n < 16777216)
    (m : Made K B H1 Dl (fun d => onE (bindT ρ tgs pair d) fun ρ' => testD (t ρ') (k ρ')) all n (d :: left) H') {H'' : Hp} (e2 : Ex H' H'') (r : Rp K (upB B Dl) H'' d v) :
    g v σ H'' fun σ2 H2 => wipe σ2 vs = wipe σ vs ∧ eT K t σ2 H2 fun b H3 => if b = true then eD K k σ2 H3 fun y H4 => ∃ acc, H4 Dl = some (.lst acc) ∧ acc.length < sizeLine ∧
      Made K B H1 Dl (fun d => onE (bindT ρ tgs pair d) fun ρ' => testD (t ρ') (k ρ')) all (n + 1) left (upd H4 Dl (.lst (acc ++ [y]))) else Made K B H1 Dl (fun d => onE (bindT ρ tgs pair d) fun ρ' => testD (t ρ') (k ρ')) all (n + 1) left H3 := by
  obtain ⟨ex, acc, ds, rest, hD, ra, hl, hc, ha⟩ := m
  have ex2 := ex.trans e2
  have hD2 := e2 _ _ hD
  have dm2 : Dom (upB B Dl) H'' := fun a h => h.elim (fun z => (dm.mono ex2) a z) fun z => ⟨_, z ▸ hD2⟩
  have ra2 := ra.ex e2
  have re2 : RpE K (upB B Dl) H'' ρ σ := re.mono ex2.toB (upB_new nD)
  have hal := ra.length
  rcases compL_cons hc with ⟨h1, h2⟩ | ⟨x, r', h1, h2, h3⟩
  · obtain ⟨ρ', hb, ht⟩ := onE_some h1
    refine hgd _ _ d v ρ ρ' σ _ re2 r hb fun σ' re' hw => ⟨hw vs hsub, ?_⟩
    rcases test_some ht with ⟨_, x, _, h4⟩ | ⟨h4, _⟩
    · cases h4
    · exact ⟨upB B Dl, ρ', false, dm2, re', h4, fun H3 e3 => iteF ⟨ex2.trans e3, acc, ds, rest, e3 _ _ hD2, ra2.ex e3, by omega, h2, ha⟩⟩
  · obtain ⟨ρ', hb, ht⟩ := onE_some h1
    refine hgd _ _ d v ρ ρ' σ _ re2 r hb fun σ' re' hw => ⟨hw vs hsub, ?_⟩
    rcases test_some ht with ⟨h4, x', h5, h6⟩ | ⟨_, h6⟩
    · cases h6
      refine ⟨upB B Dl, ρ', true, dm2, re', h4, fun H3 e3 => iteT ⟨upB B Dl, ρ', x, dm2.mono e3, re'.ex e3, h5, fun y H4 e4 ry => ⟨acc, e4 _ _ (e3 _ _ hD2), ?_, ?_⟩⟩⟩
      · rw [← hal]
        exact Nat.lt_of_le_of_lt hl (by rw [show sizeLine = 16777216 from sizeLine_eq]; exact hn)
      · refine ⟨((ex2.trans e3).trans e4).mut nD, acc ++ [y], ds ++ [x], r', upd_same, ?_, ?_, h2, ?_⟩
        · have rr := ((ra2.ex e3).ex e4).snoc ry
          exact rr.mono (ExB.upd (.inr rfl)) fun a h => .inl h
        · rw [List.length_append, List.length_singleton]
          omega
        · rw [ha, h3, List.append_assoc]
          rfl
    · cases h6
/-- a new list -/
def eF (K : PySem.W.Frag) (f : Env → Option D) : TE := fun σ H Q => ∃ B ρ ds, Dom B H ∧ RpE K B H ρ σ ∧ f ρ = some (.lst ds) ∧ ∀ p vs H', Ex H H' → H p = none → H' p = some (.lst vs) → RpL K (upB B p) H' ds vs → Q (.ref p) H'
theorem upB_sub {B : Addr → Prop} {H : Hp} {p : Addr} : ∀ a, B a → upB B p a ∨ H a = none := fun a h => .inl (.inl h)
theorem eF_of {f : Env → Option D} (hf : ∀ ρ d, f ρ = some d → ∃ ds, d = .lst ds) : ∀ σ H Q, eD X.K f σ H Q → eF X.K f σ H Q := fun σ H Q ⟨B, ρ, d, dm, re, h, q⟩ => by
  obtain ⟨ds, rfl⟩ := hf ρ d h
  exact ⟨B, ρ, ds, dm, re, h, fun p vs H' e np hp r => q _ _ e (.lst hp (dm.fresh np) (r.mono (ExB.refl H') upB_sub))⟩
theorem fresh_lst {K : PySem.W.Frag} {B : Addr → Prop} {H : Hp} {p : Addr} {ds : List D} {vs : List V} (np : H p = none) (r : RpL K B H ds vs) : RpL K (upB B p) (upd H p (.lst vs)) ds vs := r.mono (Ex.new np).toB (upB_new np)
theorem lc_imp {g : TG} {tgs : List Nat} {pair : Bool} {vs : List Nat} (hgd : TgD X.K g tgs pair) (hsub : ∀ i ∈ tgs, i ∈ vs) : ∀ σ H Q,
    eF X.K (fun ρ => capL (onI (capI (f ρ)) (compL fun d => onE (bindT (wipeE ρ vs) tgs pair d) fun ρ' => testD (t ρ') (k ρ')))) σ H Q → tLc (eI X.K f) g (eT X.K t) (eD X.K k) vs σ H Q := by
  intro σ H Q ⟨B, ρ, all, dm, re, h, q⟩
  obtain ⟨all', h1, e0⟩ := capL_some h
  cases e0
  obtain ⟨items, h2, h3⟩ := onI_some h1
  obtain ⟨h4, h5⟩ := cap_some h2
  refine ⟨B, ρ, items, dm, re, h4, fun J H1 e1 wk Dl nD => ?_⟩
  have dm1 := dm.mono e1
  have re1 := re.ex e1
  refine lc_it wk (fun i H' => Made X.K B H1 Dl (fun d => onE (bindT (wipeE ρ vs) tgs pair d) fun ρ' => testD (t ρ') (k ρ')) all i (items.drop i) H') ?_ (fun i H' _ m => m.1.toB) (fun i x H' H'' hi m hy => ?_) (fun H' m => ?_)
  · exact ⟨Ex.new nD, [], [], all, upd_same, .nil, Nat.zero_le _, h3, rfl⟩
  · have hd : items.drop i = items[i] :: items.drop (i + 1) := List.drop_eq_getElem_cons hi
    rw [hd] at m
    have dmD : Dom (upB B Dl) H' := fun a h => h.elim (fun z => (dm1.mono m.1) a z) fun z => by
      obtain ⟨_, acc, _, _, hD, _⟩ := m
      exact ⟨_, z ▸ hD⟩
    have r := hy.2 _ (List.getElem?_eq_getElem hi) _ (upB_new nD) dmD
    have res := made_turn (vs := vs) dm1 nD (re1.wipe vs) hgd hsub (by omega) m hy.1 r
    rw [wipe_wipe_sub σ fun i hi => hi] at res
    exact res
  · obtain ⟨ex, acc, ds, rest, hD, ra, hl, hc, ha⟩ := m
    rw [List.drop_length] at hc
    cases hc
    rw [List.append_nil] at ha
    subst ha
    exact q _ _ _ (e1.trans ex) (e1.fresh nD) hD ra
theorem df_comp {elt tg iter : Expr} {ifs : List Expr} {scope : Scope} {own : List (Str × Nat)} {pos : Pos} {g : TG} {tgs : List Nat} {pair : Bool} (hc : X.calm = true) (hN : X.N.Nodup) (hi : PI X tg iter (eI X.K f)) (ok : BlkOk X.N X.env.scope scope own)
    (hgd : TgD X.K g tgs pair) (hsub : ∀ i ∈ tgs, i ∈ own.map (·.2))
    (hg : ∀ (s : Shared) (H : Hp) (C : Addr) (cl : List (Str × Addr)) (fp : List Addr), PG (X.blk s H scope (compEnvC scope cl C X.env) fp) tg g)
    (ht : ∀ (s : Shared) (H : Hp) (C : Addr) (cl : List (Str × Addr)) (fp : List Addr), PTs (X.blk s H scope (compEnvC scope cl C X.env) fp) ifs (eT X.K t))
    (he : ∀ (s : Shared) (H : Hp) (C : Addr) (cl : List (Str × Addr)) (fp : List Addr), PE (X.blk s H scope (compEnvC scope cl C X.env) fp) elt (eD X.K k))
    (hs : ∀ x, foldedSetIterable iter X.env x = pure x) :
    PE X (.ListComp elt [⟨tg, iter, ifs, 0⟩] scope pos) (eF X.K fun ρ => capL (onI (capI (f ρ)) (compL fun d => onE (bindT (wipeE ρ (own.map (·.2))) tgs pair d) fun ρ' => testD (t ρ') (k ρ')))) :=
  PE.imp (lc_imp hgd hsub) (pe_lc hc hN hi ok hg ht he hs)
theorem capL_lst {o : Option (List D)} {d : D} (h : capL o = some d) : ∃ ds, d = .lst ds := let ⟨ds, _, e⟩ := capL_some h; ⟨ds, e⟩
theorem de_comp {elt tg iter : Expr} {ifs : List Expr} {scope : Scope} {own : List (Str × Nat)} {pos : Pos} {g : TG} {tgs : List Nat} {pair : Bool} (hc : X.calm = true) (hN : X.N.Nodup) (hi : PI X tg iter (eI X.K f)) (ok : BlkOk X.N X.env.scope scope own)
    (hgd : TgD X.K g tgs pair) (hsub : ∀ i ∈ tgs, i ∈ own.map (·.2))
    (hg : ∀ (s : Shared) (H : Hp) (C : Addr) (cl : List (Str × Addr)) (fp : List Addr), PG (X.blk s H scope (compEnvC scope cl C X.env) fp) tg g)
    (ht : ∀ (s : Shared) (H : Hp) (C : Addr) (cl : List (Str × Addr)) (fp : List Addr), PTs (X.blk s H scope (compEnvC scope cl C X.env) fp) ifs (eT X.K t))
    (he : ∀ (s : Shared) (H : Hp) (C : Addr) (cl : List (Str × Addr)) (fp : List Addr), PE (X.blk s H scope (compEnvC scope cl C X.env) fp) elt (eD X.K k))
    (hs : ∀ x, foldedSetIterable iter X.env x = pure x) :
    PE X (.ListComp elt [⟨tg, iter, ifs, 0⟩] scope pos) (eD X.K fun ρ => capL (onI (capI (f ρ)) (compL fun d => onE (bindT (wipeE ρ (own.map (·.2))) tgs pair d) fun ρ' => testD (t ρ') (k ρ')))) :=
  PE.imp (eF_of fun _ _ h => capL_lst h) (df_comp hc hN hi ok hgd hsub hg ht he hs)
/-- no test -/
theorem dts_nil {Y : Cx} : PTs Y [] (eT Y.K fun _ => some (.bl true)) := ⟨fun pins s σ H Q I ⟨B, ρ, b, dm, re, h, q⟩ => by
  cases h
  exact pts_nil.run pins s σ H Q I (q H (Ex.refl H))⟩
theorem dts_one {Y : Cx} {c : Expr} (h : PT Y c (eT Y.K t)) : PTs Y [c] (eT Y.K t) := pts_one h

theorem compL2_cons {F : D → Option (List D)} {d : D} {ds r : List D} (h : compL2 F (d :: ds) = some r) : ∃ l r', F d = some l ∧ compL2 F ds = some r' ∧ r = l ++ r' := by
  simp only [compL2] at h
  split at h
  · rename_i h1 h2
    cases h
    exact ⟨_, _, h1, h2, rfl⟩
  · cases h
theorem lc2_imp {vs : List Nat} {j j1 : Nat} {f1 : Env → Option (List D)} (hj : j ∈ vs) (hj1 : j1 ∈ vs) : ∀ σ H Q,
    eD X.K (fun ρ => capL (onI (capI (f ρ)) (compL2 fun d => onI (capI (f1 ((wipeE ρ vs).set j (some d)))) (compL fun d1 =>
      testD (t ((wipeE ((wipeE ρ vs).set j (some d)) [j1]).set j1 (some d1))) (k ((wipeE ((wipeE ρ vs).set j (some d)) [j1]).set j1 (some d1))))))) σ H Q → tLc2 (eI X.K f) (gName j) tYes (eI X.K f1) (gName j1) (eT X.K t) (eD X.K k) vs [j1] σ H Q := by
  intro σ H Q ⟨B, ρ, d, dm, re, h, q⟩
  obtain ⟨all, h1, rfl⟩ := capL_some h
  obtain ⟨items, h2, h3⟩ := onI_some h1
  obtain ⟨h4, h5⟩ := cap_some h2
  refine ⟨B, ρ, items, dm, re, h4, fun J H1 e1 wk Dl nD => ?_⟩
  have dm1 := dm.mono e1
  have re1 := (re.ex e1).wipe vs
  let F : D → Option (List D) := fun d => onI (capI (f1 ((wipeE ρ vs).set j (some d)))) (compL fun d1 =>
      testD (t ((wipeE ((wipeE ρ vs).set j (some d)) [j1]).set j1 (some d1))) (k ((wipeE ((wipeE ρ vs).set j (some d)) [j1]).set j1 (some d1))))
  let M : Nat → Hp → Prop := fun i H' => Ex H1 H' ∧ ∃ (acc : List V) (ds rest : List D), H' Dl = some (.lst acc) ∧ RpL X.K (upB B Dl) H' ds acc ∧ ds.length ≤ i * 4096 ∧ compL2 F (items.drop i) = some rest ∧ all = ds ++ rest
  have fin : ∀ H', M items.length H' → Q (.ref Dl) H' := by
    rintro H' ⟨ex, acc, ds, rest, hD, ra, hl, hc, ha⟩
    rw [List.drop_length] at hc
    cases hc
    rw [List.append_nil] at ha
    subst ha
    exact q _ _ (e1.trans ex) (.lst hD (dm1.fresh nD) (ra.mono (ExB.refl H') fun a h => .inl (.inl h)))
  refine ⟨fun i m H' => m = items.length - i ∧ i ≤ items.length ∧ M i H', ⟨_, rfl, Nat.zero_le _, Ex.new nD, [], [], all, upd_same, .nil, Nat.zero_le _, h3, rfl⟩, fun i m H' ⟨hm, hle, mi⟩ => ?_⟩
  by_cases hil : i < items.length
  · refine .inr ⟨wk.goes i H' hil mi.1.toB, fun H' => M (i + 1) H', fun H'' mm => ⟨items.length - (i + 1), by omega, rfl, by omega, mm⟩, fun x H'' hy => ?_⟩
    have hy := wk.yields i H' x H'' hil mi.1.toB hy
    obtain ⟨ex, acc, ds, rest, hD, ra, hl, hcc, ha⟩ := mi
    have hd : items.drop i = items[i] :: items.drop (i + 1) := List.drop_eq_getElem_cons hil
    rw [hd] at hcc
    obtain ⟨l, r', hF, hr', e3⟩ := compL2_cons hcc
    obtain ⟨items1, h6, h7⟩ := onI_some hF
    obtain ⟨h8, h9⟩ := cap_some h6
    have ex2 := ex.trans hy.1
    have hD2 := hy.1 _ _ hD
    have dmD : Dom (upB B Dl) H' := fun a h => h.elim (fun z => (dm1.mono ex) a z) fun z => ⟨_, z ▸ hD⟩
    have dm2 := dmD.mono hy.1
    have rx := hy.2 _ (List.getElem?_eq_getElem hil) _ (upB_new nD) dmD
    have re2 : RpE X.K (upB B Dl) H'' (wipeE ρ vs) (wipe σ vs) := re1.mono ex2.toB (upB_new nD)
    have re3 := re2.set j rx
    refine ⟨(wipe_set_mem _ hj).trans (wipe_wipe_sub σ fun _ z => z), ?_⟩
    refine iteT (B := M (i + 1) H'') ⟨upB B Dl, _, items1, dm2, re3, h8, fun J1 H4 e4 wk1 => ?_⟩
    have ra4 := (ra.ex hy.1).ex e4
    have re4 := (re3.ex e4).wipe [j1]
    have hD4 := e4 _ _ hD2
    let G : D → Option (Option D) := fun d1 => testD (t ((wipeE ((wipeE ρ vs).set j (some items[i])) [j1]).set j1 (some d1))) (k ((wipeE ((wipeE ρ vs).set j (some items[i])) [j1]).set j1 (some d1)))
    let M1 : Nat → Hp → Prop := fun u H5 => Ex H1 H5 ∧ ExB (upB B Dl) H4 H5 ∧ ∃ (acc : List V) (ds1 rest1 : List D), H5 Dl = some (.lst acc) ∧ RpL X.K (upB B Dl) H5 (ds ++ ds1) acc ∧ ds1.length ≤ u ∧ compL G (items1.drop u) = some rest1 ∧ l = ds1 ++ rest1
    refine ⟨fun u m1 H5 => m1 = items1.length - u ∧ u ≤ items1.length ∧ M1 u H5, ⟨_, rfl, Nat.zero_le _, ex2.trans e4, ExB.refl H4, acc, [], l, hD4, by rw [List.append_nil]; exact ra4, Nat.zero_le _, h7, rfl⟩, fun u m1 H5 ⟨hm1, hle1, mi1⟩ => ?_⟩
    by_cases hul : u < items1.length
    · refine .inr ⟨wk1.goes u H5 hul mi1.2.1, fun H6 => M1 (u + 1) H6, fun H6 mm => ⟨items1.length - (u + 1), by omega, rfl, by omega, mm⟩, fun x1 H6 hy1 => ?_⟩
      have hy1 := wk1.yields u H5 x1 H6 hul mi1.2.1 hy1
      obtain ⟨ex5, exb5, acc5, ds1, rest1, hD5, ra5, hl5, hc5, ha5⟩ := mi1
      have hd1 : items1.drop u = items1[u] :: items1.drop (u + 1) := List.drop_eq_getElem_cons hul
      rw [hd1] at hc5
      have dm5 : Dom (upB B Dl) H5 := fun a h => h.elim (fun z => (dm1.mono ex5) a z) fun z => ⟨_, z ▸ hD5⟩
      have dm6 := dm5.mono hy1.1
      have rx1 := hy1.2 _ (List.getElem?_eq_getElem hul) (upB B Dl) (fun a h => .inl h) dm5
      have ex6 := ex5.trans hy1.1
      have exb6 := exb5.trans hy1.1.toB
      have hD6 := hy1.1 _ _ hD5
      have ra6 := ra5.ex hy1.1
      have re6 : RpE X.K (upB B Dl) H6 (wipeE ((wipeE ρ vs).set j (some items[i])) [j1]) (wipe ((wipe σ vs).set j (some x)) [j1]) := re4.mono exb6 fun a h => .inl h
      have re7 := re6.set j1 rx1
      have hal := ra5.length
      have hn1 : (ds ++ ds1).length < 16777216 := by
        rw [List.length_append]
        omega
      refine ⟨?_, ?_⟩
      · exact (wipe_set_mem _ (List.mem_singleton.mpr rfl)).trans (wipe_wipe_sub _ fun _ z => z)
      · rcases compL_cons hc5 with ⟨g1, g2⟩ | ⟨y', r2, g1, g2, g3⟩
        · rcases test_some g1 with ⟨_, y', _, h10⟩ | ⟨h10, _⟩
          · cases h10
          · exact ⟨upB B Dl, _, false, dm6, re7, h10, fun H7 e7 => iteF ⟨ex6.trans e7, exb6.trans e7.toB, acc5, ds1, rest1, e7 _ _ hD6, ra6.ex e7, by omega, g2, ha5⟩⟩
        · rcases test_some g1 with ⟨h10, y2, h11, h12⟩ | ⟨_, h12⟩
          · cases h12
            refine ⟨upB B Dl, _, true, dm6, re7, h10, fun H7 e7 => iteT ⟨upB B Dl, _, y', dm6.mono e7, re7.ex e7, h11, fun y H8 e8 ry => ⟨acc5, e8 _ _ (e7 _ _ hD6), ?_, ?_⟩⟩⟩
            · rw [← hal]
              rw [show sizeLine = 16777216 from sizeLine_eq]
              exact hn1
            · refine ⟨((ex6.trans e7).trans e8).mut nD, ((exb6.trans e7.toB).trans e8.toB).trans (ExB.upd (.inr rfl)), acc5 ++ [y], ds1 ++ [y'], r2, upd_same, ?_, ?_, g2, ?_⟩
              · rw [← List.append_assoc]
                have rr := ((ra6.ex e7).ex e8).snoc ry
                exact rr.mono (ExB.upd (.inr rfl)) fun a h => .inl h
              · rw [List.length_append, List.length_singleton]
                omega
              · rw [ha5, g3, List.append_assoc]
                rfl
          · cases h12
    · have eu : u = items1.length := by omega
      subst eu
      refine .inl ⟨wk1.stops H5 mi1.2.1, ?_⟩
      obtain ⟨ex5, exb5, acc5, ds1, rest1, hD5, ra5, hl5, hc5, ha5⟩ := mi1
      rw [List.drop_length] at hc5
      cases hc5
      rw [List.append_nil] at ha5
      subst ha5
      refine ⟨ex5, acc5, ds ++ l, r', hD5, ra5, ?_, hr', ?_⟩
      · rw [List.length_append]
        have : (i + 1) * 4096 = i * 4096 + 4096 := by omega
        omega
      · rw [ha, e3, List.append_assoc]
  · have ei : i = items.length := by omega
    subst ei
    exact .inl ⟨wk.stops H' mi.1.toB, fin H' mi⟩
/-- two for, both targets names, no test at the first -/
theorem de_comp2 {elt tg iter tg1 iter1 : Expr} {ifs1 : List Expr} {scope : Scope} {own : List (Str × Nat)} {pos : Pos} {j j1 : Nat} {f1 : Env → Option (List D)} (hc : X.calm = true) (hN : X.N.Nodup) (hi : PI X tg iter (eI X.K f)) (ok : BlkOk X.N X.env.scope scope own)
    (hj : j ∈ own.map (·.2)) (hj1 : j1 ∈ own.map (·.2))
    (hg : ∀ (s : Shared) (H : Hp) (C : Addr) (cl : List (Str × Addr)) (fp : List Addr), PG (X.blk s H scope (compEnvC scope cl C X.env) fp) tg (gName j))
    (hi1 : ∀ (s : Shared) (H : Hp) (C : Addr) (cl : List (Str × Addr)) (fp : List Addr), PI (X.blk s H scope (compEnvC scope cl C X.env) fp) tg1 iter1 (eI X.K f1))
    (hg1 : ∀ (s : Shared) (H : Hp) (C : Addr) (cl : List (Str × Addr)) (fp : List Addr), PG (X.blk s H scope (compEnvC scope cl C X.env) fp) tg1 (gName j1))
    (ht1 : ∀ (s : Shared) (H : Hp) (C : Addr) (cl : List (Str × Addr)) (fp : List Addr), PTs (X.blk s H scope (compEnvC scope cl C X.env) fp) ifs1 (eT X.K t))
    (he : ∀ (s : Shared) (H : Hp) (C : Addr) (cl : List (Str × Addr)) (fp : List Addr), PE (X.blk s H scope (compEnvC scope cl C X.env) fp) elt (eD X.K k))
    (hs : ∀ x, foldedSetIterable iter X.env x = pure x) (hs1 : ∀ env x, foldedSetIterable iter1 env x = pure x) :
    PE X (.ListComp elt [⟨tg, iter, [], 0⟩, ⟨tg1, iter1, ifs1, 0⟩] scope pos) (eD X.K fun ρ => capL (onI (capI (f ρ)) (compL2 fun d => onI (capI (f1 ((wipeE ρ (own.map (·.2))).set j (some d)))) (compL fun d1 =>
      testD (t ((wipeE ((wipeE ρ (own.map (·.2))).set j (some d)) [j1]).set j1 (some d1))) (k ((wipeE ((wipeE ρ (own.map (·.2))).set j (some d)) [j1]).set j1 (some d1))))))) := 
  PE.imp (lc2_imp hj hj1) (pe_lc2 (vs1 := [j1]) hc hN hi ok (fun i hi => List.mem_singleton.mp hi ▸ hj1) hg (fun s H C cl fp => pts_nil) hi1 hg1 ht1 he hs hs1)
end
end DL
/-! DX: displays of dicts whose keys are pairs. -/
namespace DL
open PySem PySem.Spec PyProof.Rows L2
/-! ### displays -/
section
variable {prog : Program} {w : World} {K : Type} [DecidableEq K] {knd : HeapKind prog w K} {A : Around} {E : Value → Shared → Prop} {s : Shared}
theorem dict_pairsH {env : PySem.Env} {keys : List (Option Expr)} {values : List Expr} {pos : Pos} {pairs : List (Sem Value × Sem Value)} {Q : Value → Shared → Prop} (hu : knd.room A)
    (hz : (evalEachOpt keys env).zip ((evalEach values env).map fun v => do let x ← v; standAt pos; pure x) = pairs.map fun p => (some p.1, p.2)) (h0 : pairs ≠ []) (hl : pairs.length ≤ 15)
    (h : wpAny (model prog w) A (evalPairs pairs) (fun vs s1 => ∃ ps, CarriesH knd s1.heap vs ps ∧ s1.heap.DictOfH knd s.heap.objs.size [] ∧ ∀ h' tk, h'.DictOfH knd s.heap.objs.size (storedAllH [] ps) → Heap.SameBut s.heap.objs.size s1.heap h' → Q (.ref s.heap.objs.size) { s1 with heap := h', toks := tk }) E
      { s with heap := s.heap.push { cls := .type "dict", data := .dict #[] } }) : wpAny (model prog w) A (eval (.Dict keys values pos) env) Q E s := by
  rw [arm_eval_Dict, hz, dictDisplay_pairs pairs h0 (by omega)]
  refine wpAny_bind (wpAny_standAt (wpAny_bind (wpAny_subDictH (knd := knd) (Q := fun d s' => wpAny (model prog w) A (pure (Value.ref d)) Q E s') hu hl ?_)))
  refine wpAny_mono h (fun vs s1 h1 => ?_) fun _ _ e => e
  obtain ⟨ps, hc, hm, hq⟩ := h1
  exact ⟨ps, hc, hm, fun h' tk a b => wpAny_pure (hq h' tk a b)⟩
end
section
variable {X : Cx} {pos : Pos}
abbrev KAV := List Key × Addr × V
def putAll (acc : List (List Key × V)) (kvs : List KAV) : List (List Key × V) := kvs.foldl (fun acc kv => putK acc kv.1 kv.2.2) acc
/-- {(..): v, ..}; the new dict stands empty while the pairs are made -/
def tDispT (trs : List (TE × TE)) : TE := fun σ H Q => ∀ p, H p = none → tPairs trs σ (upd H p (.dT [])) fun ps H2 => H2 p = some (.dT []) ∧ ∃ kvs : List KAV, ps = kvs.map (fun kv => (V.ref kv.2.1, kv.2.2)) ∧ (∀ kv ∈ kvs, H2 kv.2.1 = some (.tup (kv.1.map kV))) ∧ kvs.length ≤ 15 ∧ Q (.ref p) (upd H2 p (.dT (putAll [] kvs)))
theorem carriesT {P : Program} {w : World} {H : Hp} {h : Heap} (ok : HOk P w H h) : ∀ {kvs : List KAV} {ws : List (Value × Value)} {acc : List (List Key × V)} {xs : List (List Key × Addr × Value)}, (∀ kv ∈ kvs, H kv.2.1 = some (.tup (kv.1.map kV))) → VV (kvs.map fun kv => (V.ref kv.2.1, kv.2.2)) ws → KT H acc xs → ∃ ps, CarriesH (tupleKind (mixKind P w)) h ws ps ∧ KT H (putAll acc kvs) (storedAllH xs ps)
  | [], _, acc, xs, _, r, rel => by
    cases r
    exact ⟨[], trivial, rel⟩
  | kv :: kvs, _, acc, xs, hk, r, rel => by
    rw [List.map_cons] at r
    cases r with
    | @cons a b as bs hh t =>
      obtain ⟨b1, b2⟩ := b
      have h1 := hk kv List.mem_cons_self
      have eb : b1 = Value.ref kv.2.1 := hh.1
      obtain ⟨ps, c, rel'⟩ := carriesT ok (acc := putK acc kv.1 kv.2.2) (xs := storedH xs kv.1 kv.2.1 b2) (fun x hx => hk x (List.mem_cons_of_mem _ hx)) t (rel.put kv.1 h1 hh.2)
      exact ⟨(kv.1, kv.2.1, b2) :: ps, ⟨eb, rfl, key_of ok h1, c⟩, rel'⟩
theorem putAll_len : ∀ (kvs : List KAV) (acc : List (List Key × V)), (putAll acc kvs).length ≤ acc.length + kvs.length
  | [], acc => Nat.le_refl _
  | kv :: kvs, acc => by
    have h1 := putAll_len kvs (putK acc kv.1 kv.2.2)
    have h2 := length_putK acc kv.1 kv.2.2
    show (putAll (putK acc kv.1 kv.2.2) kvs).length ≤ _
    rw [List.length_cons]
    omega
theorem pe_dispT {keys : List (Option Expr)} {values : List Expr} {trs : List (TE × TE)} (hu : X.A.units + 65 < cLine) (h : PPs X pos keys values trs) (hall : keys.all (·.isSome) = true) (hl : keys.length = values.length) (h0 : keys ≠ []) (h15 : keys.length ≤ 15) : PE X (.Dict keys values pos) (tDispT trs) := by
  refine ⟨fun pins s σ H Q I q => ?_⟩
  have hn := I.hok.fresh (Nat.le_refl s.heap.objs.size)
  have I1 := I.laid (a := s.heap.objs.size) (o := .dT []) (h' := s.heap.push { cls := .type "dict", data := .dict #[] }) (t' := s.toks) (fun _ _ q => Heap.get?_push_of_some _ q) (Nat.le_refl _) (dt_empty s.heap I.big)
  have hpl := pairTrees_length keys values X.env pos hall hl
  refine dict_pairsH (knd := tupleKind (mixKind X.prog X.w)) (show X.A.units < cLine by omega) (zip_pairTrees keys values X.env pos hall hl) (fun z => ?_) (by rw [hpl]; exact h15) (thn (h.run pins _ σ _ _ I1 (q _ hn)) fun ws s2 ⟨ps, H2, I2, rel, e, kvs, ep, hk, lk, q2⟩ => ?_)
  · rw [z] at hpl
    exact h0 (List.length_eq_zero_iff.mp hpl.symm)
  · subst ep
    obtain ⟨z, hd, xs0, r0, dd⟩ := dt_of I2.hok e
    cases r0
    obtain ⟨ps', c, rk⟩ := carriesT I2.hok (acc := []) (xs := []) hk rel .nil
    refine ⟨ps', c, dd, fun h' tk dd' hs => ⟨.ref s.heap.objs.size, _, ?_, rfl, q2⟩⟩
    have hz : (putAll [] kvs).length ≤ sizeLine := by
      have h1 := putAll_len kvs []
      rw [List.length_nil] at h1
      rw [sizeLine_eq]; omega
    obtain ⟨o, es, ep, hq, g2, g3, g4, _, g5⟩ := dd'
    refine d_write I2 (by rw [e]; exact True.intro) hs ⟨o, hq⟩ ⟨hz, hd, _, rk.keeps fun c ys ec => ?_, o, es, ep, hq, g2, g3, g4, g5⟩
    rw [upd_ne (ne_of ec e (fun z => nomatch z))]
    exact ec
end
/-! ### by data -/
section
variable {X : Cx} {pos : Pos} {f g f2 g2 : Env → Option D} {a b a2 b2 : Expr}
theorem tp1 {ta tb : TE} {σ : L2.St} {H : Hp} {R : List (V × V) → Hp → Prop} (h : ta σ H fun x H1 => tb σ H1 fun y H2 => R [(x, y)] H2) : tPairs [(ta, tb)] σ H R := h
theorem tp2 {ta tb tc td : TE} {σ : L2.St} {H : Hp} {R : List (V × V) → Hp → Prop} (h : ta σ H fun x H1 => tb σ H1 fun y H2 => tc σ H2 fun z H3 => td σ H3 fun w H4 => R [(x, y), (z, w)] H4) : tPairs [(ta, tb), (tc, td)] σ H R := h
theorem de_d1 (hu : X.A.units + 65 < cLine) (ha : PE X a (eD X.K f)) (hb : PE X b (eD X.K g)) : PE X (.Dict [some a] [b] pos) (eD X.K fun ρ => op2 d1D (f ρ) (g ρ)) :=
  PE.imp (fun σ H Q ⟨B, ρ, d, dm, re, h, q⟩ => by
    obtain ⟨x, y, hx, hy, hz⟩ := op2_some h
    unfold d1D at hz
    split at hz
    · rename_i kk v hk
      cases hz
      intro p np
      have e0 := Ex.new (o := .dT []) np
      refine tp1 ⟨B, ρ, x, dm.mono e0, re.ex e0, hx, fun u H1 e1 rx => ⟨B, ρ, _, (dm.mono e0).mono e1, (re.ex e0).ex e1, hy, fun w H2 e2 ry => ?_⟩⟩
      obtain ⟨b, rfl, hb⟩ := keyD_rp rx hk
      cases ry
      refine ⟨e2 _ _ (e1 _ _ upd_same), [(kK kk, b, .int v)], rfl, fun kv hkv => ?_, (by simp), q _ _ ((e0.trans (e1.trans e2)).mut np) (.dic upd_same (dm.fresh np))⟩
      rw [List.mem_singleton.mp hkv]
      exact e2 _ _ hb
    · cases hz) (pe_dispT hu (pps_cons ha hb pps_nil) rfl rfl (fun z => nomatch z) (by show 1 ≤ 15; omega))
theorem de_d2 (hu : X.A.units + 65 < cLine) (ha : PE X a (eD X.K f)) (hb : PE X b (eD X.K g)) (ha2 : PE X a2 (eD X.K f2)) (hb2 : PE X b2 (eD X.K g2)) : PE X (.Dict [some a, some a2] [b, b2] pos) (eD X.K fun ρ => d2O (f ρ) (g ρ) (f2 ρ) (g2 ρ)) :=
  PE.imp (fun σ H Q ⟨B, ρ, d, dm, re, h, q⟩ => by
    unfold d2O at h
    dsimp only at h
    split at h
    · rename_i x y x2 y2 hx hy hx2 hy2
      unfold d2D at h
      split at h
      · rename_i kk v kk2 v2 hk hk2
        cases h
        intro p np
        have e0 := Ex.new (o := .dT []) np
        refine tp2 ⟨B, ρ, x, dm.mono e0, re.ex e0, hx, fun u H1 e1 rx => ⟨B, ρ, _, (dm.mono e0).mono e1, (re.ex e0).ex e1, hy, fun w H2 e2 ry => ⟨B, ρ, x2, ((dm.mono e0).mono e1).mono e2, ((re.ex e0).ex e1).ex e2, hx2, fun u2 H3 e3 rx2 => ⟨B, ρ, _, (((dm.mono e0).mono e1).mono e2).mono e3, (((re.ex e0).ex e1).ex e2).ex e3, hy2, fun w2 H4 e4 ry2 => ?_⟩⟩⟩⟩
        obtain ⟨b, rfl, hb⟩ := keyD_rp rx hk
        obtain ⟨b2, rfl, hb2⟩ := keyD_rp rx2 hk2
        cases ry
        cases ry2
        refine ⟨e4 _ _ (e3 _ _ (e2 _ _ (e1 _ _ upd_same))), [(kK kk, b, .int v), (kK kk2, b2, .int v2)], rfl, fun kv hkv => ?_, (by simp), q _ _ ((e0.trans (e1.trans (e2.trans (e3.trans e4)))).mut np) (.dic ?_ (dm.fresh np))⟩
        · rcases List.mem_cons.mp hkv with z | z
          · rw [z]
            exact e4 _ _ (e3 _ _ (e2 _ _ hb))
          · rw [List.mem_singleton.mp z]
            exact e4 _ _ hb2
        · rw [dput_enc]
          exact upd_same
      · cases h
    · cases h) (pe_dispT hu (pps_cons ha hb (pps_cons ha2 hb2 pps_nil)) rfl rfl (fun z => nomatch z) (by show 2 ≤ 15; omega))
end
end DL
/-! DY: e[::-1] of lists and tuples. -/
namespace HT
open PySem PySem.Spec PyProof.Rows L2
section
variable {prog : Program} {w : World} {A : Around} {E : Value → Shared → Prop} {s : Shared}
theorem sliceApplied_back {sl : Addr} {vl vu vs : Value} {n : Nat} {Q : Int × Int × Nat → Shared → Prop} (hs : s.heap.IsSliceOf sl vl vu vs) (pl : IsPart vl none) (pu : IsPart vu none) (ps : IsPart vs (some (-1)))
    (h : Q ((n : Int) - 1, -1, n) s) : wpAny (model prog w) A (Builtin.Slice.sliceApplied (.ref sl) (pure (n : Int))) Q E s := by
  obtain ⟨ob, hob, _, hdt⟩ := id hs
  unfold Builtin.Slice.sliceApplied Builtin.Slice.sliceFields
  refine wpAny_bind (wpAny_bind (wpAny_field hob hdt (x := vl) rfl (wpAny_bind (wpAny_field hob hdt (x := vu) rfl (wpAny_bind (wpAny_field hob hdt (x := vs) rfl (wpAny_pure ?_)))))))
  refine wpAny_bind (slicePart_ ps ?_)
  show wpAny _ _ (if ((-1 : Int) == 0) = true then _ else _) _ _ s
  rw [if_neg (by decide)]
  refine wpAny_bind (slicePart_ pl (wpAny_bind (slicePart_ pu (wpAny_bind (wpAny_pure ?_)))))
  show wpAny _ _ (pure ((n : Int) - 1, (-1 : Int), Builtin.Slice.slicePlaces ((n : Int) - 1) (-1) (-1))) _ _ s
  have e : Builtin.Slice.slicePlaces ((n : Int) - 1) (-1) (-1) = n := by
    unfold Builtin.Slice.slicePlaces
    rw [if_neg (by decide), show (- -1 : Int) = 1 by decide, Int.ediv_one]
    split <;> omega
  rw [e]
  exact wpAny_pure h
theorem pick_back (xs : Array Value) : ((List.range xs.size).filterMap fun (m : Nat) => xs[(((xs.size : Int) - 1) + (m : Int) * (-1)).toNat]?).toArray = xs.toList.reverse.toArray := by
  have e : ((List.range xs.size).filterMap fun (m : Nat) => xs[(((xs.size : Int) - 1) + (m : Int) * (-1)).toNat]?) = ((List.range xs.size).map fun k => xs.size - 1 - k).filterMap (xs[·]?) := by
    rw [List.filterMap_map]
    have key : ∀ l : List Nat, (∀ m ∈ l, m < xs.size) → l.filterMap (fun (m : Nat) => xs[(((xs.size : Int) - 1) + (m : Int) * (-1)).toNat]?) = l.filterMap ((xs[·]?) ∘ fun k => xs.size - 1 - k) := by
      intro l
      induction l with
      | nil => intro _; rfl
      | cons m l ih =>
        intro h
        have h1 := h m List.mem_cons_self
        have e1 : (((xs.size : Int) - 1) + (m : Int) * (-1)).toNat = xs.size - 1 - m := by omega
        rw [List.filterMap_cons, List.filterMap_cons, e1, ih fun x hx => h x (List.mem_cons_of_mem _ hx)]
        rfl
    exact key _ fun m hm => List.mem_range.mp hm
  rw [e, PySem.W.krv_range, List.filterMap_reverse, PySem.W.krv_all]
theorem getItem_tuple_back {t sl : Addr} {items : Array Value} {vl vu vs : Value} {Q : Value → Shared → Prop} (ht : IsTup s.heap t items) (hs : s.heap.IsSliceOf sl vl vu vs) (pl : IsPart vl none) (pu : IsPart vu none) (ps : IsPart vs (some (-1)))
    (h : Q (.ref s.heap.objs.size) { s with heap := s.heap.push { cls := .type "tuple", data := .seq items.toList.reverse.toArray } }) (hsz : items.size ≤ sizeLine) : wpAny (model prog w) A (getItem (.ref t) (.ref sl)) Q E s := by
  have hk : sizeOk (.seq items.toList.reverse.toArray) := by
    show items.toList.reverse.toArray.size ≤ sizeLine
    rw [List.size_toArray, List.length_reverse, Array.length_toList]
    exact hsz
  obtain ⟨ob, hob, hcl, _⟩ := id hs
  have hTy : s.TypeIs (.ref sl) "slice" := ⟨ob, hob, hcl⟩
  unfold getItem
  try with_reducible refine wpAny_holding ?_
  refine wpAny_bind (wpAny_sequenceKey ht.typeIs (by decide) ?_)
  refine wpAny_bind (wpAny_callSpecial?_slot (name := Str.ofString "__getitem__") ht.typeIs PyProof.Rows.slot_tuple_getitem (wpAny_call_entry PyProof.Rows.slot_tuple_getitem ht.typeIs entry_tuple_getitem ?_ (args_tuple_getitem _ _)))
  show wpAny _ _ (Builtin.Tuple.tupleItemsOf (.ref t) >>= _) _ _ s
  refine wpAny_bind (tupleItemsOf_ ht (wpAny_bind (wpAny_typeOf hTy ?_)))
  rw [if_pos (by decide)]
  refine wpAny_bind (sliceApplied_back hs pl pu ps ?_)
  have hno : ¬ ((((items.size : Int) - 1) == 0 && (-1 : Int) == 1 && items.size == items.size) = true) := by
    intro q
    rw [Bool.and_eq_true, Bool.and_eq_true] at q
    exact absurd (eq_of_beq q.1.2) (by decide)
  show wpAny _ _ (if (((items.size : Int) - 1) == 0 && (-1 : Int) == 1 && items.size == items.size) = true then _ else _) _ _ s
  rw [if_neg hno, pick_back]
  first
    | exact wpAny_bind (m := Builtin.Tuple.tupleExact _) (wpAny_newObj_type (wpAny_pure ⟨_, rfl, wpAny_pure h⟩) hk)
    | exact wpAny_bind (m := Builtin.Tuple.tupleExact _) (wpAny_newObj_type (wpAny_bind (wpAny_pure (wpAny_pure ⟨_, rfl, wpAny_pure h⟩))) hk)
end
end HT
namespace DL
open PySem PySem.Spec PyProof.Rows L2
section
variable {X : Cx}
/-- x[::-1], x a list or a tuple -/
def tBack (K : PySem.W.Frag) (te : TE) : TE := fun σ H Q => te σ H fun x H1 => ∃ a xs, x = .ref a ∧ ((SqL K H1 a xs ∧ ∀ p, H1 p = none → Q (.ref p) (upd H1 p (.lst xs.reverse))) ∨ (SqT K H1 a xs ∧ ∀ p, H1 p = none → Q (.ref p) (upd H1 p (.tup xs.reverse))))
theorem pe_back {e : Expr} {te : TE} {k : Nat} {p1 p2 p3 pos : Pos} (he : PE X e te) : PE X (.Subscript e (.Slice none none (some (.UnaryOp .USub (.Constant (.int 1) k p1) p2)) p3) pos) (tBack X.K te) := by
  refine ⟨fun pins s σ H Q I h => ?_⟩
  refine Subscript_ (thn (he.run pins s σ H _ I h) fun v s1 ⟨x, H1, I1, r1, q1⟩ => ?_)
  obtain ⟨a, xs, ex, hx⟩ := q1
  subst ex
  cases r1
  have hst : PO X (some (.UnaryOp .USub (.Constant (.int 1) k p1) p2)) (tPart (tUn (rU fun i => .int (-i)) (tC (.int 1)))) := po_some (pe_un un_neg pe_int)
  refine wpAny_Slice (thn (po_none.run pins s1 σ H1 (fun o H2 => o = none ∧ H2 = H1) I1 ⟨rfl, rfl⟩) fun vl s2 ⟨l, H2, I2, pl, el, e2⟩ => ?_)
  subst el e2
  refine thn (po_none.run pins s2 σ H2 (fun o H3 => o = none ∧ H3 = H2) I2 ⟨rfl, rfl⟩) fun vu s3 ⟨u, H3, I3, pu, eu, e3⟩ => ?_
  subst eu e3
  refine thn (hst.run pins s3 σ H3 (fun o H4 => o = some (-1) ∧ H4 = H3) I3 ⟨1, rfl, -1, rfl, rfl, rfl⟩) fun vs s4 ⟨o, H4, I4, ps, eo, e4⟩ => ?_
  subst eo e4
  have I5 : Inv X pins σ H4 { s4 with heap := s4.heap.push { cls := .type "slice", data := .fields #[vl, vu, vs] } } := I4.kept (t' := s4.toks) fun b ob q => Heap.get?_push_of_some _ q
  show wpAny (model X.prog X.w) X.A (subscriptTail e (.Slice none none (some (.UnaryOp .USub (.Constant (.int 1) k p1) p2)) p3) (.ref a) (.ref s4.heap.objs.size)) (EP X pins σ Q) X.xe { s4 with heap := s4.heap.push { cls := .type "slice", data := .fields #[vl, vu, vs] } }
  rcases hx with ⟨hx, q⟩ | ⟨hx, q⟩
  · obtain ⟨its, r, ht, hz⟩ := I5.list hx
    have hlen := r.length
    refine tail_any (ops := [.ref a, .ref s4.heap.objs.size]) ht.isList.typeIs (PySem.slot_list_getitem.lookup) ?_ (by with_unfolding_all rfl)
    refine wpAny_getItem_list_slice ht.isList (Heap.IsSliceOf.new _ vl vu vs) pl pu ps (by decide) ?_ (by rw [List.size_toArray]; omega)
    rw [PySem.W.krv_pick]
    exact ⟨.ref _, _, I5.laid (t' := s4.toks) (o := .lst xs.reverse) (fun b ob q => Heap.get?_push_of_some _ q) (Nat.le_refl _) ⟨by rw [List.length_reverse]; exact hz, _, 0, r.reverse, Heap.get?_push_size _ rfl⟩, rfl, q _ (I5.hok.fresh (Nat.le_refl _))⟩
  · obtain ⟨its, r, ht, hz⟩ := I5.tuple hx
    have hlen := r.length
    refine tail_any (ops := [.ref a, .ref s4.heap.objs.size]) ht.typeIs (PyProof.Rows.slot_tuple_getitem.lookup) ?_ (by with_unfolding_all rfl)
    refine HT.getItem_tuple_back ht (Heap.IsSliceOf.new _ vl vu vs) pl pu ps ?_ (by rw [List.size_toArray]; omega)
    exact ⟨.ref _, _, I5.laid (t' := s4.toks) (o := .tup xs.reverse) (fun b ob q => Heap.get?_push_of_some _ q) (Nat.le_refl _) ⟨by rw [List.length_reverse]; exact hz, _, r.reverse, IsTup.new _ _⟩, rfl, q _ (I5.hok.fresh (Nat.le_refl _))⟩
theorem rpL_reverse {K : PySem.W.Frag} {B : Addr → Prop} {H : Hp} : ∀ {ds : List D} {vs : List V}, RpL K B H ds vs → RpL K B H ds.reverse vs.reverse
  | [], _, r => by
    cases r
    exact .nil
  | d :: ds, _, r => by
    cases r with
    | cons h t =>
      rw [List.reverse_cons, List.reverse_cons]
      exact (rpL_reverse t).append (.cons h .nil)
theorem de_back {e : Expr} {f : Env → Option D} {k : Nat} {p1 p2 p3 pos : Pos} (he : PE X e (eD X.K f)) : PE X (.Subscript e (.Slice none none (some (.UnaryOp .USub (.Constant (.int 1) k p1) p2)) p3) pos) (eD X.K fun ρ => op1 backD (f ρ)) :=
  PE.imp (fun σ H Q ⟨B, ρ, d, dm, re, h, q⟩ => by
    obtain ⟨x, hx, hz⟩ := op1_some h
    refine ⟨B, ρ, x, dm, re, hx, fun v H1 e1 rx => ?_⟩
    unfold backD at hz
    split at hz
    · cases hz
      cases rx with
      | @lst a vs _ h1 n1 r1 => exact ⟨a, vs, rfl, .inl ⟨.of h1, fun p np => q _ _ (e1.trans (Ex.new np)) (.lst upd_same ((dm.mono e1).fresh np) ((rpL_reverse r1).ex (Ex.new np)))⟩⟩
    · cases hz
      cases rx with
      | @tup a vs _ h1 n1 r1 => exact ⟨a, vs, rfl, .inr ⟨.of h1, fun p np => q _ _ (e1.trans (Ex.new np)) (.tup upd_same ((dm.mono e1).fresh np) ((rpL_reverse r1).ex (Ex.new np)))⟩⟩
    · cases hz) (pe_back he)
end
end DL
/-! DZ: tuples of ints whose one object is known: made by tuple(list), t.index(k), walked. -/
namespace DL
open PySem PySem.Spec PyProof.Rows L2
section
variable {X : Cx} {a o e : Expr} {ta td ty : TE} {pos apos cpos : Pos}
theorem pe_ktup {p : Pos} (hg : Gl X "tuple") (hm : X.mg "tuple" = none) (ha : PE X a ta) (na : starEach [a] X.env = (false, eval a X.env) :: starEach [] X.env) :
    PE X (.Call (.Name "tuple" p) [a] [] pos) (tThen ta fun x H Q => ∃ p xs, x = .ref p ∧ SqL X.K H p xs ∧ ∀ q ob, H q = none → ob.dict = none → Q (.ref q) (upd H q (.frz ob (.tup xs)))) := by
  refine ⟨fun pins s σ H Q I h => ?_⟩
  refine Call_ (ld_blt I hg hm boot_tuple (PyProof.Rows.callWith_type1 (one_arg ha I h (fun v s2 x H2 I2 r q => ?_) na) na))
  obtain ⟨p, xs, rfl, hs, q⟩ := q
  obtain rfl : v = .ref p := r
  obtain ⟨its, rv, pl, hz⟩ := I2.list hs
  refine call_tuple_list pl.isList (fun h' hk => ?_) (by rw [List.size_toArray, ← rv.length]; exact hz)
  have I1 : Inv X pins σ H2 { s2 with heap := h' } := I2.kept (t' := s2.toks) hk
  have hgt : (h'.push { cls := .type "tuple", data := .seq its.toArray }).get? h'.objs.size = some { cls := .type "tuple", data := .seq its.toArray } := Heap.get?_push_size _ rfl
  have I3 : Inv X pins σ (upd H2 h'.objs.size (.frz { cls := .type "tuple", data := .seq its.toArray } (.tup xs))) { s2 with heap := h'.push { cls := .type "tuple", data := .seq its.toArray } } :=
    I1.laid (t' := s2.toks) (fun b o e => Heap.get?_push_of_some _ e) (Nat.le_refl _) (show ObjOk X.prog X.w _ _ _ (.frz _ (.tup xs)) from ⟨hgt, hz, its, rv, IsTup.new _ _⟩)
  exact ⟨.ref h'.objs.size, _, I3, rfl, q _ _ (I1.hok.fresh (Nat.le_refl _)) rfl⟩
def tTix (td ty : TE) : TE := fun σ H Q => td σ H fun x H1 => ∃ (a : Addr) (ob : Obj) (xs : List V), x = .ref a ∧ H1 a = some (.frz ob (.tup xs)) ∧ ob.dict = none ∧ ty σ H1 fun y H2 => ∃ (ob : Obj) (ns : List Int) (i : Int), H2 a = some (.frz ob (.tup (ns.map V.int))) ∧ y = .int i ∧ i ∈ ns ∧ Q (.int (ns.idxOf i : Nat)) H2
theorem pe_tix (ho : PE X o td) (he : PE X e ty) (m : M1 X o "index" apos e cpos) : PE X (.Call (.Attribute o "index" apos) [e] [] cpos) (tTix td ty) := by
  refine ⟨fun pins s σ H Q I h => ?_⟩
  refine wpAny_Call_method m.base m.few m.line PySem.F.plainAttrs_tuple PySem.F.slot_tuple_index PySem.F.type_tuple_index (thn (ho.run pins s σ H _ I h) fun u s1 ⟨x, H1, I1, rx, a, ob, xs, ex, ha, hd, q1⟩ => ?_)
  subst ex
  obtain rfl : u = Value.ref a := rx
  obtain ⟨h1, _, its, rv, ob', h2, h3, _⟩ := (show ObjOk X.prog X.w H1 s1.heap a (.frz ob (.tup xs)) from I1.hok a _ ha)
  refine ⟨⟨ob', h2, h3⟩, fun b q => ?_, ?_⟩
  · cases q
    exact ⟨ob, h1, hd⟩
  · rw [m.trees]
    refine Calls.callWith_builtin rfl (Calls.evalArgs_plain (Calls.spliced_cons (thn (he.run pins s1 σ H1 _ I1 q1) fun iv s2 ⟨y, H2, I2, ry, ob2, ns, i, ea, ey, hi, q2⟩ => Calls.spliced_nil ?_)))
    subst ey
    obtain ⟨t, rfl⟩ := ry
    obtain ⟨_, _, its2, rv2, pt⟩ := (show ObjOk X.prog X.w H2 s2.heap a (.frz ob2 (.tup (ns.map V.int))) from I2.hok a _ ea)
    exact SeqAt.tuple_index_ints (show s2.heap.IsTuple a its2.toArray from pt) rv2.ints hi ⟨.int _, H2, I2.tok _, ⟨_, rfl⟩, q2⟩
variable {f g : Env → Option D}
theorem wk_ktup {K : PySem.W.Frag} {B : Addr → Prop} {H : Hp} {a : Addr} {ns : List Int} {o : Obj} (h : H a = some (.frz o (.tup (ns.map V.int)))) (n : ¬ B a) : WkD K B (Itt K a) H (ns.map D.int) := by
  unfold WkD
  have r : RpL K B H (ns.map D.int) (ns.map V.int) := RpL.ints ns
  rw [r.length]
  exact walk_tup.mono (fun H' hG => .inl (.inr ⟨o, hG _ _ n h⟩)) fun i H1 x H2 _ hG ⟨e, hx⟩ => ⟨e ▸ Ex.refl _, fun d hd B' hb' dm' => by
    obtain ⟨v, hv, rv⟩ := r.get hd
    rw [hx] at hv
    cases hv
    rw [e]
    exact rv.mono hG hb'⟩
theorem di_kit {tg : Expr} (he : PE X e (eD X.K f)) : PI X tg e (eI X.K fun ρ => itemsO (op1 kitD (f ρ))) := by
  refine ⟨fun pins s σ H R I ⟨B, ρ, ds, dm, re, h, q⟩ => ?_⟩
  rcases items_some h with h | h
  · obtain ⟨x, hx, hz⟩ := op1_some h
    unfold kitD at hz
    split at hz
    · cases hz
      refine (pi_tup he).run pins s σ H R I ⟨B, ρ, _, dm, re, hx, fun v H1 e1 r => ?_⟩
      cases r with
      | @ktp a ns o h1 h2 h3 => exact ⟨a, rfl, ⟨_, .inl (.inr ⟨o, h1⟩)⟩, q _ _ e1 (wk_ktup h1 h3)⟩
    · cases hz
  · obtain ⟨x, hx, hz⟩ := op1_some h
    unfold kitD at hz
    split at hz <;> cases hz
theorem de_ktup {x1 : Str} {p : Pos} (e1 : x1 = "tuple") (hg : Gl X x1) (hm : X.mg x1 = none) (ha : PE X a (eD X.K f)) (hs : starEach [a] X.env = (false, eval a X.env) :: starEach [] X.env) : PE X (.Call (.Name x1 p) [a] [] pos) (eD X.K fun ρ => op1 ktupD (f ρ)) := by
  subst e1
  exact PE.imp (fun σ H Q ⟨B, ρ, d, dm, re, h, q⟩ => by
    obtain ⟨x, hx, hz⟩ := op1_some h
    unfold ktupD at hz
    split at hz
    · rename_i ds
      cases e : intsD ds with
      | none => rw [e] at hz; cases hz
      | some ns =>
        rw [e] at hz
        cases hz
        refine ⟨B, ρ, _, dm, re, hx, fun v H1 e1 r => ?_⟩
        cases r with
        | @lst a vs _ h1 n1 r1 =>
          have ev := intsD_rp r1 e
          subst ev
          exact ⟨a, _, rfl, .of h1, fun q' ob nq hd => q _ _ (e1.trans (Ex.new nq)) (.ktp upd_same hd ((dm.mono e1).fresh nq))⟩
    · cases hz) (pe_ktup hg hm ha hs)
theorem de_tix (ha : PE X o (eD X.K f)) (hb : PE X e (eD X.K g)) (m : M1 X o "index" apos e cpos) : PE X (.Call (.Attribute o "index" apos) [e] [] cpos) (eD X.K fun ρ => op2 tixD (f ρ) (g ρ)) :=
  PE.imp (fun σ H Q ⟨B, ρ, d, dm, re, h, q⟩ => by
    obtain ⟨x, y, hx, hy, hz⟩ := op2_some h
    unfold tixD at hz
    split at hz
    · rename_i ns i
      split at hz
      · rename_i hi
        cases hz
        refine ⟨B, ρ, _, dm, re, hx, fun v H1 e1 rx => ?_⟩
        cases rx with
        | @ktp a _ ob h1 h2 h3 =>
          refine ⟨a, ob, _, rfl, h1, h2, B, ρ, _, dm.mono e1, re.ex e1, hy, fun u H2 e2 ry => ?_⟩
          cases ry
          exact ⟨ob, ns, i, e2 _ _ h1, rfl, hi, q _ _ (e1.trans e2) (.int _)⟩
      · cases hz
    · cases hz) (pe_tix ha hb m)
end
end DL
/-! DL7: the checker for expressions, and that it is sound. -/
namespace DL
open PySem PySem.Spec PyProof.Rows L2

/-- the promise of a def by data -/
def spD (K : PySem.W.Frag) (g : List D → Option D) : Sp := fun vs H Q _ => ∃ B ds d, Dom B H ∧ RpL K B H ds vs ∧ g ds = some d ∧ ∀ v H', Ex H H' → Rp K B H' d v → Q v H'
structure Callee (P : Program) (w : World) (K : PySem.W.Frag) (mg : Str → Option Value) (base : Heap) (A : Around) (x : Str) (g : List D → Option D) : Prop where
  ok : ∃ (k : Nat) (f : Addr) (fd : FuncData) (ps : List Str), FnOk P w K mg base CX0 k f fd ps (spD K g) ∧ Room k A ∧ mg x = some (.ref f) ∧ PySem.W.keepIn K (.ref f) = true ∧ Binds K fd ps []
structure CC where
  N : List Str
  sc : Scope
  ok : Str → Bool
  fns : List Str
  cons : List Str
def CC.blk (c : CC) (scope : Scope) : CC := { c with sc := relS scope c.sc, ok := fun x => scope.names.lookup x == some .cell || (relS scope c.sc).names.lookup x == some .local }
def bltN : List Str := ["len", "max", "min", "all", "list", "tuple", "int", "bool", "str", "isinstance", "range", "enumerate", "zip"]
structure Good (X : Cx) (c : CC) (Φ : Nat → List D → Option D) (cs : Nat → Int) : Prop where
  N : X.N = c.N
  nd : c.N.Nodup
  sc : X.env.scope = c.sc
  ok : ∀ x, c.ok x = true → X.fn x = true ∨ c.sc.names.lookup x = some .local
  calm : X.calm = true
  xe : X.xe = fun _ _ => False
  units : X.A.units + 65 < cLine
  blt : ∀ x ∈ bltN, X.mg x = none
  call : ∀ i x, c.fns[i]? = some x → Callee X.prog X.w X.K X.mg X.base X.A x (Φ i)
  con : ∀ j x, c.cons[j]? = some x → ∃ t, X.mg x = some (.int (cs j) t)
section
variable {X : Cx} {c : CC} {Φ : Nat → List D → Option D} {cs : Nat → Int}
theorem Good.blk (g : Good X c Φ cs) (s : Shared) (H : Hp) (scope : Scope) (C : Addr) (cl : List (Str × Addr)) (fp : List Addr) : Good (X.blk s H scope (compEnvC scope cl C X.env) fp) (c.blk scope) Φ cs where
  N := g.N
  nd := g.nd
  sc := by
    show relabel scope X.env = relS scope c.sc
    rw [← g.sc]
    rfl
  ok := fun x h => by
    rw [show (c.blk scope).ok x = (scope.names.lookup x == some .cell || (relS scope c.sc).names.lookup x == some .local) from rfl, Bool.or_eq_true] at h
    exact h.imp (fun z => z) fun z => beq_iff_eq.mp z
  calm := g.calm
  xe := rfl
  units := g.units
  blt := g.blt
  call := g.call
  con := g.con
end

/-! ### the checker -/
def visC (sc : Scope) (x : Str) : Bool := match sc.names.lookup x with
  | some .local => true
  | some .cell => true
  | some .free => true
  | _ => false
def locC (c : CC) (x : Str) : Bool := (match c.sc.names.lookup x with
  | some .local => true
  | some .cell => true
  | _ => false) && c.ok x
def glC (sc : Scope) (x : Str) : Bool := sc.names.lookup x == some .globalImplicit
def nodbg (x : Str) : Bool := !(x == ("__debug__" : Str)) && (!(x == ("__classdict__" : Str)) && decide (x ≠ ("__name__" : Str)))
def noStar : Expr → Bool
  | .Starred .. => false
  | _ => true
def noSet : Expr → Bool
  | .Set .. => false
  | _ => true
def noSlice : Expr → Bool
  | .Slice .. => false
  | _ => true
def isName : Expr → Bool
  | .Name .. => true
  | _ => false
def tstE : Expr → Bool
  | .IfExp .. => false
  | _ => true
def opB : Bop → Operator
  | .add => .Add | .sub => .Sub | .mul => .Mult | .fdiv => .FloorDiv | .mod => .Mod | .pow => .Pow
def opC : Cop → CmpOp
  | .eq => .Eq | .ne => .NotEq | .lt => .Lt | .le => .LtE | .gt => .Gt | .ge => .GtE | .is => .Is | .isn => .IsNot | .inn => .In | .nin => .NotIn
def bltS : Blt → String
  | .len => "len" | .max => "max" | .min => "min" | .all => "all" | .toL => "list" | .toT => "tuple" | .toI => "int" | .toB => "bool"
def tyC (T : String) : Bool := T == "bool" || (T == "int" || (T == "str" || (T == "list" || T == "tuple")))
def tgC (c : CC) : List Nat → List Expr → Bool
  | [], [] => true
  | j :: js, .Name x _ :: es => (c.N[j]? == some x && locC c x) && tgC c js es
  | _, _ => false
def tgE (c : CC) (tg : List Nat) (pair : Bool) : Expr → Bool
  | .Name x _ => !pair && (match tg with
    | [j] => c.N[j]? == some x && locC c x
    | _ => false)
  | .Tuple es _ _ => pair && tgC c tg es
  | _ => false
def ownOf (c : CC) (vs : List Nat) : List (Str × Nat) := vs.map fun v => (c.N.getD v "", v)
def isTup : Expr → Bool
  | .Tuple .. => true
  | _ => false
def subL (tg vs : List Nat) : Bool := tg.all fun i => decide (i ∈ vs)
def isIt : E → Bool
  | .rng1 _ => true
  | .rng2 _ _ => true
  | .enm _ => true
  | .zp _ _ => true
  | .kit _ => true
  | _ => false
def pairIt : E → Bool
  | .enm _ => true
  | .zp _ _ => true
  | _ => false

abbrev CkF := CC → Nat → List Expr → Bool
def cVar (i : Nat) : CkF := fun c md xs => match xs with
  | [.Name x _] => decide (md ≠ 2) && (c.N[i]? == some x && (visC c.sc x && nodbg x))
  | _ => false
def cInt (i : Int) : CkF := fun c md xs => match xs with
  | [.Constant (.int j) _ _] => decide (md ≠ 2) && i == j
  | _ => false
def cBl (b : Bool) : CkF := fun c md xs => match xs with
  | [.Constant (.bool j) _ _] => decide (md ≠ 2) && b == j
  | _ => false
def cNon : CkF := fun c md xs => match xs with
  | [.Constant .none _ _] => decide (md ≠ 2)
  | _ => false
def cStr (s : Str) : CkF := fun c md xs => match xs with
  | [.Constant (.str j) _ _] => decide (md ≠ 2) && s == j
  | _ => false
def cCon (j : Nat) : CkF := fun c md xs => match xs with
  | [.Name x _] => decide (md ≠ 2) && (c.cons[j]? == some x && (glC c.sc x && nodbg x))
  | _ => false
def cNil : CkF := fun c md xs => match xs with
  | [] => md == 2
  | _ => false
def cCons (ra rr : CkF) : CkF := fun c md xs => match xs with
  | e :: es => md == 2 && (noStar e && (ra c 0 [e] && rr c 2 es))
  | _ => false
def cTup (rr : CkF) : CkF := fun c md xs => match xs with
  | [.Tuple es _ _] => decide (md ≠ 2) && rr c 2 es
  | _ => false
def cLst (rr : CkF) : CkF := fun c md xs => match xs with
  | [.List es _] => decide (md ≠ 2) && rr c 2 es
  | _ => false
def cDnew : CkF := fun c md xs => match xs with
  | [.Dict [] [] _] => decide (md ≠ 2)
  | _ => false
def cD1 (rk rv : CkF) : CkF := fun c md xs => match xs with
  | [.Dict [some x] [y] _] => decide (md ≠ 2) && (rk c 0 [x] && rv c 0 [y])
  | _ => false
def cD2 (rk rv rk2 rv2 : CkF) : CkF := fun c md xs => match xs with
  | [.Dict [some x, some x2] [y, y2] _] => decide (md ≠ 2) && (rk c 0 [x] && (rv c 0 [y] && (rk2 c 0 [x2] && rv2 c 0 [y2])))
  | _ => false
def cBin (op : Bop) (ra rb : CkF) : CkF := fun c md xs => match xs with
  | [.BinOp x o y _] => decide (md ≠ 2) && (o == opB op && (ra c 0 [x] && rb c 0 [y]))
  | _ => false
def cNeg (ra : CkF) : CkF := fun c md xs => match xs with
  | [.UnaryOp .USub x _] => decide (md ≠ 2) && ra c 0 [x]
  | _ => false
def cNt (ra : CkF) : CkF := fun c md xs => match xs with
  | [.UnaryOp .Not x _] => decide (md ≠ 2) && (tstE x && ra c 0 [x])
  | _ => false
def cAn (ra rb : CkF) : CkF := fun c md xs => match xs with
  | [.BoolOp .And [x, y] _] => decide (md ≠ 2) && (tstE x && (tstE y && (ra c 0 [x] && rb c 0 [y])))
  | [.BoolOp .And (x :: y :: z :: rest) pos] => decide (md ≠ 2) && (tstE x && (ra c 0 [x] && rb c 0 [.BoolOp .And (y :: z :: rest) pos]))
  | _ => false
def cOrr (ra rb : CkF) : CkF := fun c md xs => match xs with
  | [.BoolOp .Or [x, y] _] => decide (md ≠ 2) && (tstE x && (tstE y && (ra c 0 [x] && rb c 0 [y])))
  | [.BoolOp .Or (x :: y :: z :: rest) pos] => decide (md ≠ 2) && (tstE x && (ra c 0 [x] && rb c 0 [.BoolOp .Or (y :: z :: rest) pos]))
  | _ => false
def cCmp (op : Cop) (ra rb : CkF) : CkF := fun c md xs => match xs with
  | [.Compare x [o] [y] _] => decide (md ≠ 2) && (o == opC op && (noSet y && (ra c 0 [x] && rb c 0 [y])))
  | _ => false
def cChain (op op' : Cop) (ra rb rd : CkF) : CkF := fun c md xs => match xs with
  | [.Compare x [o, o'] [y, z] _] => decide (md ≠ 2) && (o == opC op && (o' == opC op' && (noSet z && (ra c 0 [x] && (rb c 0 [y] && rd c 0 [z])))))
  | _ => false
def cDin (ng : Bool) (rk rd : CkF) : CkF := fun c md xs => match xs with
  | [.Compare x [o] [y] _] => decide (md ≠ 2) && (o == (if ng then .NotIn else .In) && (noSet y && (rk c 0 [x] && rd c 0 [y])))
  | _ => false
def cIfe (rt ra rb : CkF) : CkF := fun c md xs => match xs with
  | [.IfExp x y z _] => decide (md ≠ 2) && (tstE x && (rt c 0 [x] && (ra c 0 [y] && rb c 0 [z])))
  | _ => false
def cBlt (f : Blt) (rr : CkF) : CkF := fun c md xs => match xs with
  | [.Call (.Name x _) (e :: es) [] _] => decide (md ≠ 2) && (x == Str.ofString (bltS f) && (glC c.sc x && (noStar e && (es.all noStar && rr c 2 (e :: es)))))
  | _ => false
def cIsi (T : String) (ra : CkF) : CkF := fun c md xs => match xs with
  | [.Call (.Name x _) [e, .Name y _] [] _] => decide (md ≠ 2) && (x == Str.ofString "isinstance" && (y == Str.ofString T && (tyC T && (glC c.sc x && (glC c.sc y && (noStar e && ra c 0 [e]))))))
  | _ => false
def cIsi2 (T U : String) (ra : CkF) : CkF := fun c md xs => match xs with
  | [.Call (.Name x _) [e, .Tuple [.Name y _, .Name z _] _ _] [] _] => decide (md ≠ 2) && (x == Str.ofString "isinstance" && (y == Str.ofString T && (z == Str.ofString U && (tyC T && (tyC U && (glC c.sc x && (glC c.sc y && (glC c.sc z && (noStar e && ra c 0 [e])))))))))
  | _ => false
def cIx (ra rb : CkF) : CkF := fun c md xs => match xs with
  | [.Subscript x y _] => decide (md ≠ 2) && (noSlice y && (ra c 0 [x] && rb c 0 [y]))
  | _ => false
def cDget2 (rd rk rx : CkF) : CkF := fun c md xs => match xs with
  | [.Call (.Attribute o m apos) [y, z] [] cpos] => decide (md ≠ 2) && (m == Str.ofString "get" && (isName o && (noStar y && (noStar z && (apos.endLine == cpos.line && (rd c 0 [o] && (rk c 0 [y] && rx c 0 [z])))))))
  | _ => false
def cBack (ra : CkF) : CkF := fun c md xs => match xs with
  | [.Subscript x (.Slice none none (some (.UnaryOp .USub (.Constant (.int 1) _ _) _)) _) _] => decide (md ≠ 2) && ra c 0 [x]
  | _ => false
def cKtup (ra : CkF) : CkF := fun c md xs => match xs with
  | [.Call (.Name x _) [e] [] _] => decide (md ≠ 2) && (x == Str.ofString "tuple" && (glC c.sc x && (noStar e && ra c 0 [e])))
  | _ => false
def cTix (ra rb : CkF) : CkF := fun c md xs => match xs with
  | [.Call (.Attribute o m apos) [y] [] cpos] => decide (md ≠ 2) && (m == Str.ofString "index" && (isName o && (noStar y && (apos.endLine == cpos.line && (ra c 0 [o] && rb c 0 [y])))))
  | _ => false
def cKit (ra : CkF) : CkF := fun c md xs => match xs with
  | [e] => md == 1 && ra c 0 [e]
  | _ => false
def cSl (ra : CkF) : CkF := fun c md xs => match xs with
  | [.Subscript x (.Slice none none none _) _] => decide (md ≠ 2) && ra c 0 [x]
  | _ => false
def cSlA (ra rl : CkF) : CkF := fun c md xs => match xs with
  | [.Subscript x (.Slice (some y) none none _) _] => decide (md ≠ 2) && (ra c 0 [x] && rl c 0 [y])
  | _ => false
def cSlB (ra rh : CkF) : CkF := fun c md xs => match xs with
  | [.Subscript x (.Slice none (some y) none _) _] => decide (md ≠ 2) && (ra c 0 [x] && rh c 0 [y])
  | _ => false
def cSlAB (ra rl rh : CkF) : CkF := fun c md xs => match xs with
  | [.Subscript x (.Slice (some y) (some z) none _) _] => decide (md ≠ 2) && (ra c 0 [x] && (rl c 0 [y] && rh c 0 [z]))
  | _ => false
def cXrng (T : String) (ra : CkF) : CkF := fun c md xs => match xs with
  | [.Call (.Name x _) [.Call (.Name y _) [e] [] _] [] _] => decide (md ≠ 2) && (x == Str.ofString T && (y == Str.ofString "range" && (glC c.sc x && (glC c.sc y && (noStar e && ra c 0 [e])))))
  | _ => false
def cCall (f : Nat) (rr : CkF) : CkF := fun c md xs => match xs with
  | [.Call (.Name x _) (e :: es) [] _] => decide (md ≠ 2) && (c.fns[f]? == some x && (nodbg x && (glC c.sc x && (noStar e && (es.all noStar && rr c 2 (e :: es))))))
  | _ => false
def cIt1 (T : String) (ra : CkF) : CkF := fun c md xs => match xs with
  | [.Call (.Name x _) [e] [] _] => md == 1 && (x == Str.ofString T && (glC c.sc x && (noStar e && ra c 0 [e])))
  | _ => false
def cIt2 (T : String) (ra rb : CkF) : CkF := fun c md xs => match xs with
  | [.Call (.Name x _) [e, e'] [] _] => md == 1 && (x == Str.ofString T && (glC c.sc x && (noStar e && (noStar e' && (ra c 0 [e] && rb c 0 [e'])))))
  | _ => false
/-- the tests of a clause -/
def cIfs (tt : E) (rt : CkF) : CC → List Expr → Bool := fun c ifs => match ifs with
  | [] => (match tt with
    | .bl b => b
    | _ => false)
  | [x] => tstE x && rt c 0 [x]
  | _ => false
def cComp (vs tg : List Nat) (pair : Bool) (ti tt : E) (rit rt re : CkF) : CkF := fun c md xs => match xs with
  | [.ListComp elt [⟨tge, iter, ifs, 0⟩] scope _] => decide (md ≠ 2) && (blkC c.N c.sc scope (ownOf c vs) && (tgE (c.blk scope) tg pair tge && (subL tg vs && (noSet iter && ((!pairIt ti || isTup tge) && (rit c 1 [iter] && (re (c.blk scope) 0 [elt] && cIfs tt rt (c.blk scope) ifs)))))))
  | _ => false
def cComp2 (vs : List Nat) (j j1 : Nat) (ti ti1 tt : E) (rit rit1 rt re : CkF) : CkF := fun c md xs => match xs with
  | [.ListComp elt [⟨tge, iter, [], 0⟩, ⟨tge1, iter1, ifs, 0⟩] scope _] => decide (md ≠ 2) && (blkC c.N c.sc scope (ownOf c vs) && (tgE (c.blk scope) [j] false tge && (tgE (c.blk scope) [j1] false tge1 && (subL [j, j1] vs && (noSet iter && (noSet iter1 && (!pairIt ti && (!pairIt ti1 && (rit c 1 [iter] &&
      (rit1 (c.blk scope) 1 [iter1] && (re (c.blk scope) 0 [elt] && cIfs tt rt (c.blk scope) ifs)))))))))))
  | _ => false
def chk : E → CkF
  | .var i => cVar i
  | .int i => cInt i
  | .bl b => cBl b
  | .non => cNon
  | .str s => cStr s
  | .con j => cCon j
  | .nil => cNil
  | .cons a r => cCons (chk a) (chk r)
  | .tup r => cTup (chk r)
  | .lst r => cLst (chk r)
  | .dnew => cDnew
  | .d1 k v => cD1 (chk k) (chk v)
  | .d2 k v k2 v2 => cD2 (chk k) (chk v) (chk k2) (chk v2)
  | .bin op a b => cBin op (chk a) (chk b)
  | .neg a => cNeg (chk a)
  | .nt a => cNt (chk a)
  | .an a b => cAn (chk a) (chk b)
  | .orr a b => cOrr (chk a) (chk b)
  | .cmp op a b => cCmp op (chk a) (chk b)
  | .chain op op' a b d => cChain op op' (chk a) (chk b) (chk d)
  | .din ng k d => cDin ng (chk k) (chk d)
  | .ife t a b => cIfe (chk t) (chk a) (chk b)
  | .blt f r => cBlt f (chk r)
  | .isi a T => cIsi T (chk a)
  | .isi2 a T U => cIsi2 T U (chk a)
  | .ix a b => cIx (chk a) (chk b)
  | .dget a b => cIx (chk a) (chk b)
  | .dget2 d k x => cDget2 (chk d) (chk k) (chk x)
  | .back a => cBack (chk a)
  | .ktup a => cKtup (chk a)
  | .tix a b => cTix (chk a) (chk b)
  | .kit a => cKit (chk a)
  | .sl a => cSl (chk a)
  | .slA a lo => cSlA (chk a) (chk lo)
  | .slB a hi => cSlB (chk a) (chk hi)
  | .slAB a lo hi => cSlAB (chk a) (chk lo) (chk hi)
  | .lrng a => cXrng "list" (chk a)
  | .trng a => cXrng "tuple" (chk a)
  | .call f r => cCall f (chk r)
  | .rng1 a => cIt1 "range" (chk a)
  | .rng2 a b => cIt2 "range" (chk a) (chk b)
  | .enm a => cIt1 "enumerate" (chk a)
  | .zp a b => cIt2 "zip" (chk a) (chk b)
  | .comp vs tg pair it t e => cComp vs tg pair it t (chk it) (chk t) (chk e)
  | .comp2 vs j j1 it it1 t e => cComp2 vs j j1 it it1 t (chk it) (chk it1) (chk t) (chk e)
end DL
/-! DL8: the checker for expressions is sound. -/
namespace DL
open PySem PySem.Spec PyProof.Rows L2
section
variable {X : Cx} {c : CC} {Φ : Nat → List D → Option D} {cs : Nat → Int}
/-! ### the text's conditions -/
theorem star1 {e : Expr} (h : noStar e = true) (es : List Expr) (env : PySem.Env) : starEach (e :: es) env = (false, eval e env) :: starEach es env := by
  cases e <;> first | rfl | (cases h; done)
theorem starL {pos : Pos} {env : PySem.Env} : ∀ {es : List Expr}, es.all noStar = true → (backTo pos (starEach es env)).any (·.1) = false
  | [], _ => rfl
  | e :: es, h => by
    rw [List.all_cons, Bool.and_eq_true] at h
    rw [star1 h.1]
    show (false || (backTo pos (starEach es env)).any (·.1)) = false
    rw [starL h.2]
    rfl
theorem mark_of {op : CmpOp} {b : Expr} (h : noSet b = true) : behindInMarks op b = false := by
  cases b <;> first | rfl | (cases h; done)
theorem fold_of {e : Expr} {env : PySem.Env} (h : noSet e = true) (x : Value) : foldedSetIterable e env x = pure x := by
  cases e <;> first | rfl | (cases h; done)
theorem ix_of {b : Expr} (h : noSlice b = true) : PlainIx b := by
  intro o i
  cases b <;> first | rfl | (cases h; done)
theorem base_of {o : Expr} {m : Str} {env : PySem.Env} {w : Sem Value} (h : isName o = true) : attributeBase o m env w = w := by
  cases o <;> first | rfl | (cases h; done)
theorem dbg_of {x : Str} (h : nodbg x = true) : (x == ("__debug__" : Str)) = false ∧ (x == ("__classdict__" : Str)) = false ∧ x ≠ ("__name__" : Str) := by
  unfold nodbg at h
  simp only [Bool.and_eq_true, Bool.not_eq_true', decide_eq_true_eq] at h
  exact ⟨h.1, h.2.1, h.2.2⟩
theorem vis_of (g : Good X c Φ cs) {x : Str} (h : visC c.sc x = true) : Vis X.env.scope x := by
  rw [g.sc]
  unfold visC at h
  split at h
  · exact .inl (by assumption)
  · exact .inr (.inl (by assumption))
  · exact .inr (.inr (by assumption))
  · cases h
theorem gl_of (g : Good X c Φ cs) {x : Str} (h : glC c.sc x = true) : Gl X x := by
  show X.env.scope.names.lookup x = some .globalImplicit
  rw [g.sc]
  exact beq_iff_eq.mp h
theorem loc_of (g : Good X c Φ cs) {x : Str} (h : locC c x = true) : Loc X.env.scope x ∧ (X.fn x = true ∨ X.env.scope.names.lookup x = some .local) := by
  rw [g.sc]
  unfold locC at h
  rw [Bool.and_eq_true] at h
  refine ⟨?_, g.ok x h.2⟩
  have h1 := h.1
  split at h1
  · exact .inl (by assumption)
  · exact .inr (by assumption)
  · cases h1
theorem tg_of (g : Good X c Φ cs) {tg : List Nat} {pair : Bool} {e : Expr} (h : tgE c tg pair e = true) : ∃ t, PG X e t ∧ TgD X.K t tg pair := by
  have hN : X.N.Nodup := g.N ▸ g.nd
  cases e <;> first | (cases h; done) | skip
  · rename_i x px
    simp only [tgE, Bool.and_eq_true, Bool.not_eq_true'] at h
    obtain ⟨h1, h2⟩ := h
    subst h1
    split at h2
    · simp only [Bool.and_eq_true, beq_iff_eq] at h2
      obtain ⟨l1, l2⟩ := loc_of g h2.2
      exact ⟨_, pg_name hN (by rw [g.N]; exact h2.1) l1 l2, tg_name _⟩
    · cases h2
  · rename_i es k pos
    simp only [tgE, Bool.and_eq_true] at h
    obtain ⟨h1, h2⟩ := h
    subst h1
    have gen : ∀ (tg : List Nat) (es : List Expr), tgC c tg es = true → PGs X es (gsOf tg) ∧ (assignEach es X.env).length = tg.length ∧ (assignEach es X.env).findIdx? (·.1) = none := by
      intro tg
      induction tg with
      | nil =>
        intro es h
        cases es with
        | nil => exact ⟨pgs_nil, rfl, rfl⟩
        | cons e es => cases h
      | cons j js ih =>
        intro es h
        cases es with
        | nil => cases h
        | cons e es =>
          cases e <;> first | (cases h; done) | skip
          rename_i x px
          simp only [tgC, Bool.and_eq_true, beq_iff_eq] at h
          obtain ⟨⟨h1, h2⟩, h3⟩ := h
          obtain ⟨a, b, d⟩ := ih es h3
          obtain ⟨l1, l2⟩ := loc_of g h2
          refine ⟨pgs_cons (pg_name (i := j) hN (by rw [g.N]; exact h1) l1 l2) a (by rfl), ?_, ?_⟩
          · show (assignEach es X.env).length + 1 = js.length + 1
            rw [b]
          · show ((false, assign (.Name x px) X.env) :: assignEach es X.env).findIdx? (·.1) = none
            rw [List.findIdx?_cons]
            simp only [Bool.false_eq_true, if_false, d, Option.map_none]
    obtain ⟨a, b, d⟩ := gen tg es h2
    exact ⟨_, pg_tup g.calm a b d, tg_tup tg⟩

/-! ### soundness -/
structure SndE (X : Cx) (Φ : Nat → List D → Option D) (cs : Nat → Int) (m : E) (e : Expr) : Prop where
  pe : PE X e (eD X.K (ev Φ cs m))
  pt : tstE e = true → PT X e (eT X.K (ev Φ cs m))
  pw : ∀ op vs pos, e = .BoolOp op vs pos → PW X e (eT X.K (ev Φ cs m))
structure Snd (X : Cx) (Φ : Nat → List D → Option D) (cs : Nat → Int) (m : E) (md : Nat) (xs : List Expr) : Prop where
  e : md ≠ 2 → isIt m = false → ∃ e, xs = [e] ∧ SndE X Φ cs m e
  i : md = 1 → ∃ e, xs = [e] ∧ ∀ tg, (pairIt m = true → isTup tg = true) → PI X tg e (eI X.K fun ρ => itemsO (ev Φ cs m ρ))
  a : md = 2 → PA X xs (eA X.K (ev Φ cs m))
theorem Snd.of {m : E} {md : Nat} {e : Expr} (hm : md ≠ 2) (s : SndE X Φ cs m e) : Snd X Φ cs m md [e] :=
  ⟨fun _ _ => ⟨e, rfl, s⟩, fun _ => ⟨e, rfl, fun tg _ => di_seq s.pe⟩, fun h => absurd h hm⟩
theorem Snd.val {m : E} {md : Nat} {e : Expr} (hm : md ≠ 2) (p : PE X e (eD X.K (ev Φ cs m))) (he : ∀ whole, isTrue e X.env whole = (do let v ← whole; standAt e.pos; holding [v] (truthy v)))
    (hb : ∀ op vs pos, e ≠ .BoolOp op vs pos) : Snd X Φ cs m md [e] := .of hm ⟨p, fun _ => dt_val p he, fun op vs pos h => absurd h (hb op vs pos)⟩
theorem Snd.it {m : E} {md : Nat} {e : Expr} (hm : md = 1) (hi : isIt m = true) (p : ∀ tg, (pairIt m = true → isTup tg = true) → PI X tg e (eI X.K fun ρ => itemsO (ev Φ cs m ρ))) : Snd X Φ cs m md [e] :=
  ⟨(fun _ h => by rw [hi] at h; cases h), fun _ => ⟨e, rfl, p⟩, (fun h => by rw [hm] at h; cases h)⟩
theorem Snd.at0 {m : E} {e : Expr} (s : Snd X Φ cs m 0 [e]) (hi : isIt m = false) : SndE X Φ cs m e := by
  obtain ⟨e', h, q⟩ := s.e (by decide) hi
  cases h
  exact q
/-- an iterator is no expression -/
theorem noIt {m : E} {e : Expr} (h : chk m c 0 [e] = true) : isIt m = false := by
  cases m <;> first | rfl | skip
  all_goals
    exfalso
    simp only [chk, cIt1, cIt2, cKit] at h
    first
    | (split at h <;> simp at h; done)
    | simp at h
abbrev IH (Φ : Nat → List D → Option D) (cs : Nat → Int) (m : E) : Prop := ∀ {X : Cx} {c : CC} {md : Nat} {xs : List Expr}, Good X c Φ cs → chk m c md xs = true → Snd X Φ cs m md xs
theorem IH.at {m : E} (ih : IH Φ cs m) (g : Good X c Φ cs) {e : Expr} (h : chk m c 0 [e] = true) : SndE X Φ cs m e := (ih g h).at0 (noIt h)
theorem IH.ar {m : E} (ih : IH Φ cs m) (g : Good X c Φ cs) {es : List Expr} (h : chk m c 2 es = true) : PA X es (eA X.K (ev Φ cs m)) := (ih g h).a rfl
theorem IH.itr {m : E} (ih : IH Φ cs m) (g : Good X c Φ cs) {e tg : Expr} (h : chk m c 1 [e] = true) (ht : pairIt m = true → isTup tg = true) : PI X tg e (eI X.K fun ρ => itemsO (ev Φ cs m ρ)) := by
  obtain ⟨e', h', q⟩ := (ih g h).i rfl
  cases h'
  exact q tg ht
variable {md : Nat} {xs : List Expr} {a b d t r it it1 e : E}
theorem s_var {i : Nat} : IH Φ cs (.var i) := by
  intro X c md xs g h
  simp only [chk] at h
  unfold cVar at h
  split at h
  · simp only [Bool.and_eq_true, decide_eq_true_eq, beq_iff_eq] at h
    obtain ⟨d1, d2, _⟩ := dbg_of h.2.2.2
    exact .val h.1 (de_var (by rw [g.N]; exact h.2.1) (vis_of g h.2.2.1) d1 d2) (fun _ => rfl) (fun _ _ _ z => nomatch z)
  · cases h
theorem s_int {i : Int} : IH Φ cs (.int i) := by
  intro X c md xs g h
  simp only [chk] at h
  unfold cInt at h
  split at h
  · simp only [Bool.and_eq_true, decide_eq_true_eq, beq_iff_eq] at h
    obtain ⟨h1, rfl⟩ := h
    exact .val h1 (de_const (d := .int i) (fun _ _ => .int i) rfl pe_int rfl) (fun _ => rfl) (fun _ _ _ z => nomatch z)
  · cases h
theorem s_bl {i : Bool} : IH Φ cs (.bl i) := by
  intro X c md xs g h
  simp only [chk] at h
  unfold cBl at h
  split at h
  · simp only [Bool.and_eq_true, decide_eq_true_eq, beq_iff_eq] at h
    obtain ⟨h1, rfl⟩ := h
    exact .val h1 (de_const (d := .bl i) (fun _ _ => .bl i) rfl pe_bl rfl) (fun _ => rfl) (fun _ _ _ z => nomatch z)
  · cases h
theorem s_non : IH Φ cs .non := by
  intro X c md xs g h
  simp only [chk] at h
  unfold cNon at h
  split at h
  · exact .val (of_decide_eq_true h) (de_const (d := .non) (fun _ _ => .non) rfl pe_non rfl) (fun _ => rfl) (fun _ _ _ z => nomatch z)
  · cases h
theorem s_str {i : Str} : IH Φ cs (.str i) := by
  intro X c md xs g h
  simp only [chk] at h
  unfold cStr at h
  split at h
  · simp only [Bool.and_eq_true, decide_eq_true_eq, beq_iff_eq] at h
    obtain ⟨h1, rfl⟩ := h
    exact .val h1 (de_const (d := .str i) (fun _ _ => .str i) rfl pe_str rfl) (fun _ => rfl) (fun _ _ _ z => nomatch z)
  · cases h
theorem s_con {j : Nat} : IH Φ cs (.con j) := by
  intro X c md xs g h
  simp only [chk] at h
  unfold cCon at h
  split at h
  · simp only [Bool.and_eq_true, decide_eq_true_eq, beq_iff_eq] at h
    obtain ⟨d1, d2, _⟩ := dbg_of h.2.2.2
    obtain ⟨t, ht⟩ := g.con j _ h.2.1
    exact .val h.1 (de_const (d := .int (cs j)) (fun _ _ => .int (cs j)) rfl (pe_glob (gl_of g h.2.2.1) ht ⟨t, rfl⟩ d1) rfl) (fun _ => rfl) (fun _ _ _ z => nomatch z)
  · cases h
theorem s_nil : IH Φ cs .nil := by
  intro X c md xs g h
  simp only [chk] at h
  unfold cNil at h
  split at h
  · have h' := beq_iff_eq.mp h
    exact ⟨fun z => absurd h' z, (fun z => by rw [z] at h'; cases h'), fun _ => da_nil⟩
  · cases h
theorem s_cons (ia : IH Φ cs a) (ir : IH Φ cs r) : IH Φ cs (.cons a r) := by
  intro X c md xs g h
  simp only [chk] at h
  unfold cCons at h
  split at h
  · simp only [Bool.and_eq_true, beq_iff_eq] at h
    obtain ⟨h', h1, h2, h3⟩ := h
    exact ⟨fun z => absurd h' z, (fun z => by rw [z] at h'; cases h'), fun _ => da_cons (ia.at g h2).pe (ir.ar g h3) (star1 h1 _ _)⟩
  · cases h
theorem s_tup (ir : IH Φ cs r) : IH Φ cs (.tup r) := by
  intro X c md xs g h
  simp only [chk] at h
  unfold cTup at h
  split at h
  · simp only [Bool.and_eq_true, decide_eq_true_eq] at h
    exact .val h.1 (de_tup (ir.ar g h.2)) (fun _ => rfl) (fun _ _ _ z => nomatch z)
  · cases h
theorem s_lst (ir : IH Φ cs r) : IH Φ cs (.lst r) := by
  intro X c md xs g h
  simp only [chk] at h
  unfold cLst at h
  split at h
  · simp only [Bool.and_eq_true, decide_eq_true_eq] at h
    exact .val h.1 (de_lst (ir.ar g h.2)) (fun _ => rfl) (fun _ _ _ z => nomatch z)
  · cases h
theorem s_dnew : IH Φ cs .dnew := by
  intro X c md xs g h
  simp only [chk] at h
  unfold cDnew at h
  split at h
  · exact .val (of_decide_eq_true h) de_dnew (fun _ => rfl) (fun _ _ _ z => nomatch z)
  · cases h
theorem s_d1 (ia : IH Φ cs a) (ib : IH Φ cs b) : IH Φ cs (.d1 a b) := by
  intro X c md xs g h
  simp only [chk] at h
  unfold cD1 at h
  split at h
  · simp only [Bool.and_eq_true, decide_eq_true_eq] at h
    obtain ⟨h1, h2, h3⟩ := h
    exact .val h1 (de_d1 g.units (ia.at g h2).pe (ib.at g h3).pe) (fun _ => rfl) (fun _ _ _ z => nomatch z)
  · cases h
theorem s_d2 {k v : E} (ia : IH Φ cs a) (ib : IH Φ cs b) (ic : IH Φ cs k) (idd : IH Φ cs v) : IH Φ cs (.d2 a b k v) := by
  intro X c md xs g h
  simp only [chk] at h
  unfold cD2 at h
  split at h
  · simp only [Bool.and_eq_true, decide_eq_true_eq] at h
    obtain ⟨h1, h2, h3, h4, h5⟩ := h
    exact .val h1 (de_d2 g.units (ia.at g h2).pe (ib.at g h3).pe (ic.at g h4).pe (idd.at g h5).pe) (fun _ => rfl) (fun _ _ _ z => nomatch z)
  · cases h
theorem s_back (ia : IH Φ cs a) : IH Φ cs (.back a) := by
  intro X c md xs g h
  simp only [chk] at h
  unfold cBack at h
  split at h
  · simp only [Bool.and_eq_true, decide_eq_true_eq] at h
    exact .val h.1 (de_back (ia.at g h.2).pe) (fun _ => rfl) (fun _ _ _ z => nomatch z)
  · cases h
theorem opd_of (op : Bop) : ∃ r : R2, OpR X (binaryOp (opB op)) r ∧ OpD X.K r (binD op) := by
  cases op
  · exact ⟨_, op_addD, opd_add⟩
  · exact ⟨_, op_sub, opd_sub⟩
  · exact ⟨_, op_mulD, opd_mul⟩
  · exact ⟨_, op_fdivN, opd_fdiv⟩
  · exact ⟨_, op_modN, opd_mod⟩
  · exact ⟨_, op_pow, opd_pow⟩
theorem s_bin {op : Bop} (ia : IH Φ cs a) (ib : IH Φ cs b) : IH Φ cs (.bin op a b) := by
  intro X c md xs g h
  simp only [chk] at h
  unfold cBin at h
  split at h
  · simp only [Bool.and_eq_true, decide_eq_true_eq, beq_iff_eq] at h
    obtain ⟨h1, rfl, h2, h3⟩ := h
    obtain ⟨r, o, od⟩ := opd_of (X := X) op
    exact .val h1 (de_op o od (ia.at g h2).pe (ib.at g h3).pe) (fun _ => rfl) (fun _ _ _ z => nomatch z)
  · cases h
theorem s_neg (ia : IH Φ cs a) : IH Φ cs (.neg a) := by
  intro X c md xs g h
  simp only [chk] at h
  unfold cNeg at h
  split at h
  · simp only [Bool.and_eq_true, decide_eq_true_eq] at h
    exact .val h.1 (de_neg (ia.at g h.2).pe) (fun _ => rfl) (fun _ _ _ z => nomatch z)
  · cases h
theorem s_nt (ia : IH Φ cs a) : IH Φ cs (.nt a) := by
  intro X c md xs g h
  simp only [chk] at h
  unfold cNt at h
  split at h
  · simp only [Bool.and_eq_true, decide_eq_true_eq] at h
    obtain ⟨h1, h2, h3⟩ := h
    have s := ia.at g h3
    exact .of h1 ⟨de_not s.pe, fun _ => dt_not (s.pt h2), fun _ _ _ z => nomatch z⟩
  · cases h
theorem s_an (ia : IH Φ cs a) (ib : IH Φ cs b) : IH Φ cs (.an a b) := by
  intro X c md xs g h
  simp only [chk] at h
  unfold cAn at h
  split at h
  · simp only [Bool.and_eq_true, decide_eq_true_eq] at h
    obtain ⟨h1, h2, h2', h3, h4⟩ := h
    have s := ia.at g h3
    have s2 := ib.at g h4
    rename_i x y pos
    have p := dw_and (pos := pos) (s.pt h2) (pw_and1 (s2.pt h2'))
    exact .of h1 ⟨de_and s.pe (pe_one s2.pe), fun _ => p.pt, fun _ _ _ z => p⟩
  · simp only [Bool.and_eq_true, decide_eq_true_eq] at h
    obtain ⟨h1, h2, h3, h4⟩ := h
    have s := ia.at g h3
    have s2 := ib.at g h4
    have p := dw_and (s.pt h2) (s2.pw _ _ _ rfl)
    exact .of h1 ⟨de_and s.pe s2.pe, fun _ => p.pt, fun _ _ _ z => p⟩
  · cases h
theorem s_orr (ia : IH Φ cs a) (ib : IH Φ cs b) : IH Φ cs (.orr a b) := by
  intro X c md xs g h
  simp only [chk] at h
  unfold cOrr at h
  split at h
  · simp only [Bool.and_eq_true, decide_eq_true_eq] at h
    obtain ⟨h1, h2, h2', h3, h4⟩ := h
    have s := ia.at g h3
    have s2 := ib.at g h4
    rename_i x y pos
    have p := dw_or (pos := pos) (s.pt h2) (pw_or1 (s2.pt h2'))
    exact .of h1 ⟨de_or s.pe (pe_one s2.pe), fun _ => p.pt, fun _ _ _ z => p⟩
  · simp only [Bool.and_eq_true, decide_eq_true_eq] at h
    obtain ⟨h1, h2, h3, h4⟩ := h
    have s := ia.at g h3
    have s2 := ib.at g h4
    have p := dw_or (s.pt h2) (s2.pw _ _ _ rfl)
    exact .of h1 ⟨de_or s.pe s2.pe, fun _ => p.pt, fun _ _ _ z => p⟩
  · cases h
theorem cmp_of (g : Good X c Φ cs) (op : Cop) : ∃ r : R2, OpR X (compareOp (opC op)) r ∧ OpD X.K r (cmpD op) := by
  have hu := g.units
  cases op
  · exact ⟨_, op_eqD (by omega), opd_eq⟩
  · exact ⟨_, op_neD (by omega), opd_ne⟩
  · exact ⟨_, op_lt, opd_lt⟩
  · exact ⟨_, op_le, opd_le⟩
  · exact ⟨_, op_gt, opd_gt⟩
  · exact ⟨_, op_ge, opd_ge⟩
  · exact ⟨_, op_isD, opd_is⟩
  · exact ⟨_, op_isNotD, opd_isNot⟩
  · exact ⟨_, op_inD2 hu, opd_in⟩
  · exact ⟨_, op_notInD2 hu, opd_nin⟩
theorem s_cmp {op : Cop} (ia : IH Φ cs a) (ib : IH Φ cs b) : IH Φ cs (.cmp op a b) := by
  intro X c md xs g h
  simp only [chk] at h
  unfold cCmp at h
  split at h
  · simp only [Bool.and_eq_true, decide_eq_true_eq, beq_iff_eq] at h
    obtain ⟨h1, rfl, h0, h2, h3⟩ := h
    obtain ⟨r, o, od⟩ := cmp_of g op
    exact .of h1 ⟨de_cmp o od (ia.at g h2).pe (ib.at g h3).pe (mark_of h0), fun _ => dt_cmp o od (ia.at g h2).pe (ib.at g h3).pe (mark_of h0), fun _ _ _ z => nomatch z⟩
  · cases h
theorem s_chain {op op' : Cop} (ia : IH Φ cs a) (ib : IH Φ cs b) (idd : IH Φ cs d) : IH Φ cs (.chain op op' a b d) := by
  intro X c md xs g h
  simp only [chk] at h
  unfold cChain at h
  split at h
  · simp only [Bool.and_eq_true, decide_eq_true_eq, beq_iff_eq] at h
    obtain ⟨h1, rfl, rfl, h0, h2, h3, h4⟩ := h
    obtain ⟨r, o, od⟩ := cmp_of g op
    obtain ⟨r', o', od'⟩ := cmp_of g op'
    exact .of h1 ⟨de_chain o o' od od' (ia.at g h2).pe (ib.at g h3).pe (idd.at g h4).pe (mark_of h0), fun _ => dt_chain o o' od od' (ia.at g h2).pe (ib.at g h3).pe (idd.at g h4).pe (mark_of h0), fun _ _ _ z => nomatch z⟩
  · cases h
theorem s_din {ng : Bool} (ia : IH Φ cs a) (ib : IH Φ cs b) : IH Φ cs (.din ng a b) := by
  intro X c md xs g h
  simp only [chk] at h
  unfold cDin at h
  split at h
  · simp only [Bool.and_eq_true, decide_eq_true_eq, beq_iff_eq] at h
    obtain ⟨h1, rfl, h0, h2, h3⟩ := h
    cases ng
    · exact .of h1 ⟨de_din g.units (ia.at g h2).pe (ib.at g h3).pe (mark_of h0), fun _ => dt_din g.units (ia.at g h2).pe (ib.at g h3).pe (mark_of h0), fun _ _ _ z => nomatch z⟩
    · exact .of h1 ⟨de_dnin g.units (ia.at g h2).pe (ib.at g h3).pe (mark_of h0), fun _ => dt_dnin g.units (ia.at g h2).pe (ib.at g h3).pe (mark_of h0), fun _ _ _ z => nomatch z⟩
  · cases h
theorem s_ife (it : IH Φ cs t) (ia : IH Φ cs a) (ib : IH Φ cs b) : IH Φ cs (.ife t a b) := by
  intro X c md xs g h
  simp only [chk] at h
  unfold cIfe at h
  split at h
  · simp only [Bool.and_eq_true, decide_eq_true_eq] at h
    obtain ⟨h1, h2, h3, h4, h5⟩ := h
    exact .of h1 ⟨de_if ((it.at g h3).pt h2) (ia.at g h4).pe (ib.at g h5).pe, (fun z => nomatch z), (fun _ _ _ z => nomatch z)⟩
  · cases h
theorem blt_mem (f : Blt) : (bltS f : Str) ∈ bltN := by cases f <;> decide +kernel
theorem s_blt {f : Blt} (ir : IH Φ cs r) : IH Φ cs (.blt f r) := by
  intro X c md xs g h
  simp only [chk] at h
  unfold cBlt at h
  split at h
  · simp only [Bool.and_eq_true, decide_eq_true_eq, beq_iff_eq] at h
    obtain ⟨h1, rfl, h2, h3, h4, h5⟩ := h
    refine .val h1 ?_ (fun _ => rfl) (fun _ _ _ z => nomatch z)
    have hm := g.blt _ (blt_mem f)
    have hg := gl_of g h2
    have ha := ir.ar g h5
    cases f
    · exact de_callB call_lenD' cd_len hg hm PySem.boot_len ha (by decide +kernel) (by decide +kernel) (star1 h3 _ _) (starL h4)
    · exact de_callB (cr_maxD g.calm) cd_max hg hm PyProof.Rows.boot_max ha (by decide +kernel) (by decide +kernel) (star1 h3 _ _) (starL h4)
    · exact de_callB (cr_minD g.calm) cd_min hg hm PyProof.Rows.boot_min ha (by decide +kernel) (by decide +kernel) (star1 h3 _ _) (starL h4)
    · exact de_callB (cr_all g.calm) cd_all hg hm (by decide +kernel) ha (by decide +kernel) (by decide +kernel) (star1 h3 _ _) (starL h4)
    · exact de_callTy call_toL cd_toL hg hm PyProof.Rows.boot_list ha (by decide +kernel) (by decide +kernel) (star1 h3 _ _) (starL h4)
    · exact de_callTy call_toT cd_toT hg hm PyProof.Rows.boot_tuple ha (by decide +kernel) (by decide +kernel) (star1 h3 _ _) (starL h4)
    · exact de_callTy call_toI cd_toI hg hm PyProof.Rows.boot_int ha (by decide +kernel) (by decide +kernel) (star1 h3 _ _) (starL h4)
    · exact de_callTy call_toB cd_toB hg hm PyProof.Rows.boot_bool ha (by decide +kernel) (by decide +kernel) (star1 h3 _ _) (starL h4)
  · cases h
theorem ty_facts {T : String} (h : tyC T = true) : T ∈ ["bool", "int", "str", "list", "tuple"] ∧ bootBuiltins (Str.ofString T) = some (.type T) ∧ Str.ofString T ∈ bltN ∧ Str.ofString T ≠ ("__name__" : Str) ∧ (Str.ofString T == ("__debug__" : Str)) = false := by
  unfold tyC at h
  simp only [Bool.or_eq_true, beq_iff_eq] at h
  rcases h with rfl | rfl | rfl | rfl | rfl
  · exact ⟨by decide, by decide +kernel, by decide +kernel, by decide +kernel, by decide +kernel⟩
  · exact ⟨by decide, by decide +kernel, by decide +kernel, by decide +kernel, by decide +kernel⟩
  · exact ⟨by decide, by decide +kernel, by decide +kernel, by decide +kernel, by decide +kernel⟩
  · exact ⟨by decide, by decide +kernel, by decide +kernel, by decide +kernel, by decide +kernel⟩
  · exact ⟨by decide, by decide +kernel, by decide +kernel, by decide +kernel, by decide +kernel⟩
theorem mem_isi : ("isinstance" : Str) ∈ bltN := by decide +kernel
theorem s_isi {T : String} (ia : IH Φ cs a) : IH Φ cs (.isi a T) := by
  intro X c md xs g h
  simp only [chk] at h
  unfold cIsi at h
  split at h
  · simp only [Bool.and_eq_true, decide_eq_true_eq, beq_iff_eq] at h
    obtain ⟨h1, rfl, rfl, h2, h3, h4, h5, h6⟩ := h
    obtain ⟨t1, t2, t3, t4, t5⟩ := ty_facts h2
    exact .val h1 (de_isi (gl_of g h3) (g.blt _ mem_isi) PyProof.Rows.boot_isinstance (gl_of g h4) (g.blt _ t3) t2 t1 (ia.at g h6).pe (by decide +kernel) (by decide +kernel) t4 t5 (star1 h5 _ _)) (fun _ => rfl) (fun _ _ _ z => nomatch z)
  · cases h
theorem s_isi2 {T U : String} (ia : IH Φ cs a) : IH Φ cs (.isi2 a T U) := by
  intro X c md xs g h
  simp only [chk] at h
  unfold cIsi2 at h
  split at h
  · simp only [Bool.and_eq_true, decide_eq_true_eq, beq_iff_eq] at h
    obtain ⟨h1, rfl, rfl, rfl, h2, h2', h3, h4, h4', h5, h6⟩ := h
    obtain ⟨t1, t2, t3, t4, t5⟩ := ty_facts h2
    obtain ⟨u1, u2, u3, u4, u5⟩ := ty_facts h2'
    exact .val h1 (de_isi2 (gl_of g h3) (g.blt _ mem_isi) PyProof.Rows.boot_isinstance (gl_of g h4) (g.blt _ t3) t2 t1 (gl_of g h4') (g.blt _ u3) u2 u1 (ia.at g h6).pe (by decide +kernel) (by decide +kernel) t4 t5 u4 u5 (star1 h5 _ _)) (fun _ => rfl) (fun _ _ _ z => nomatch z)
  · cases h
theorem s_ix (ia : IH Φ cs a) (ib : IH Φ cs b) : IH Φ cs (.ix a b) := by
  intro X c md xs g h
  simp only [chk] at h
  unfold cIx at h
  split at h
  · simp only [Bool.and_eq_true, decide_eq_true_eq] at h
    obtain ⟨h1, h0, h2, h3⟩ := h
    exact .val h1 (de_ix (ia.at g h2).pe (ib.at g h3).pe (ix_of h0)) (fun _ => rfl) (fun _ _ _ z => nomatch z)
  · cases h
theorem s_dget (ia : IH Φ cs a) (ib : IH Φ cs b) : IH Φ cs (.dget a b) := by
  intro X c md xs g h
  simp only [chk] at h
  unfold cIx at h
  split at h
  · simp only [Bool.and_eq_true, decide_eq_true_eq] at h
    obtain ⟨h1, h0, h2, h3⟩ := h
    exact .val h1 (de_dget g.units (ia.at g h2).pe (ib.at g h3).pe (ix_of h0)) (fun _ => rfl) (fun _ _ _ z => nomatch z)
  · cases h
theorem s_dget2 (ia : IH Φ cs a) (ib : IH Φ cs b) (idd : IH Φ cs d) : IH Φ cs (.dget2 a b d) := by
  intro X c md xs g h
  simp only [chk] at h
  unfold cDget2 at h
  split at h
  · simp only [Bool.and_eq_true, decide_eq_true_eq, beq_iff_eq] at h
    obtain ⟨h1, rfl, h2, h3, h4, h5, h6, h7, h8⟩ := h
    rename_i o apos y z cpos
    refine .val h1 (de_dget2 g.units (ia.at g h6).pe (ib.at g h7).pe (idd.at g h8).pe ⟨base_of h2, ?_, beq_iff_eq.mpr h5, ?_⟩) (fun _ => rfl) (fun _ _ _ z => nomatch z)
    · rw [star1 h3, star1 h4]
      rfl
    · rw [star1 h3, star1 h4]
      rfl
  · cases h
theorem s_sl (ia : IH Φ cs a) : IH Φ cs (.sl a) := by
  intro X c md xs g h
  simp only [chk] at h
  unfold cSl at h
  split at h
  · simp only [Bool.and_eq_true, decide_eq_true_eq] at h
    exact .val h.1 (de_sl (ia.at g h.2).pe) (fun _ => rfl) (fun _ _ _ z => nomatch z)
  · cases h
theorem s_slA (ia : IH Φ cs a) (ib : IH Φ cs b) : IH Φ cs (.slA a b) := by
  intro X c md xs g h
  simp only [chk] at h
  unfold cSlA at h
  split at h
  · simp only [Bool.and_eq_true, decide_eq_true_eq] at h
    exact .val h.1 (de_slA (ia.at g h.2.1).pe (ib.at g h.2.2).pe) (fun _ => rfl) (fun _ _ _ z => nomatch z)
  · cases h
theorem s_slB (ia : IH Φ cs a) (ib : IH Φ cs b) : IH Φ cs (.slB a b) := by
  intro X c md xs g h
  simp only [chk] at h
  unfold cSlB at h
  split at h
  · simp only [Bool.and_eq_true, decide_eq_true_eq] at h
    exact .val h.1 (de_slB (ia.at g h.2.1).pe (ib.at g h.2.2).pe) (fun _ => rfl) (fun _ _ _ z => nomatch z)
  · cases h
theorem s_slAB (ia : IH Φ cs a) (ib : IH Φ cs b) (idd : IH Φ cs d) : IH Φ cs (.slAB a b d) := by
  intro X c md xs g h
  simp only [chk] at h
  unfold cSlAB at h
  split at h
  · simp only [Bool.and_eq_true, decide_eq_true_eq] at h
    exact .val h.1 (de_slAB (ia.at g h.2.1).pe (ib.at g h.2.2.1).pe (idd.at g h.2.2.2).pe) (fun _ => rfl) (fun _ _ _ z => nomatch z)
  · cases h
theorem mem_range : ("range" : Str) ∈ bltN := by decide +kernel
theorem mem_list : ("list" : Str) ∈ bltN := by decide +kernel
theorem mem_tuple : ("tuple" : Str) ∈ bltN := by decide +kernel
theorem mem_enum : ("enumerate" : Str) ∈ bltN := by decide +kernel
theorem mem_zip : ("zip" : Str) ∈ bltN := by decide +kernel
theorem s_lrng (ia : IH Φ cs a) : IH Φ cs (.lrng a) := by
  intro X c md xs g h
  simp only [chk] at h
  unfold cXrng at h
  split at h
  · simp only [Bool.and_eq_true, decide_eq_true_eq, beq_iff_eq] at h
    obtain ⟨h1, rfl, rfl, h2, h3, h4, h5⟩ := h
    exact .val h1 (de_lrng g.calm rfl rfl (gl_of g h2) (g.blt _ mem_list) (gl_of g h3) (g.blt _ mem_range) (ia.at g h5).pe (star1 h4 _ _)) (fun _ => rfl) (fun _ _ _ z => nomatch z)
  · cases h
theorem s_trng (ia : IH Φ cs a) : IH Φ cs (.trng a) := by
  intro X c md xs g h
  simp only [chk] at h
  unfold cXrng at h
  split at h
  · simp only [Bool.and_eq_true, decide_eq_true_eq, beq_iff_eq] at h
    obtain ⟨h1, rfl, rfl, h2, h3, h4, h5⟩ := h
    exact .val h1 (de_trng g.calm rfl rfl (gl_of g h2) (g.blt _ mem_tuple) (gl_of g h3) (g.blt _ mem_range) (ia.at g h5).pe (star1 h4 _ _)) (fun _ => rfl) (fun _ _ _ z => nomatch z)
  · cases h
theorem s_ktup (ia : IH Φ cs a) : IH Φ cs (.ktup a) := by
  intro X c md xs g h
  simp only [chk] at h
  unfold cKtup at h
  split at h
  · simp only [Bool.and_eq_true, decide_eq_true_eq, beq_iff_eq] at h
    obtain ⟨h1, rfl, h2, h4, h5⟩ := h
    exact .val h1 (de_ktup rfl (gl_of g h2) (g.blt _ mem_tuple) (ia.at g h5).pe (star1 h4 _ _)) (fun _ => rfl) (fun _ _ _ z => nomatch z)
  · cases h
theorem s_tix (ia : IH Φ cs a) (ib : IH Φ cs b) : IH Φ cs (.tix a b) := by
  intro X c md xs g h
  simp only [chk] at h
  unfold cTix at h
  split at h
  · simp only [Bool.and_eq_true, decide_eq_true_eq, beq_iff_eq] at h
    obtain ⟨h1, rfl, h2, h3, h5, h6, h7⟩ := h
    refine .val h1 (de_tix (ia.at g h6).pe (ib.at g h7).pe ⟨base_of h2, ?_, beq_iff_eq.mpr h5, ?_⟩) (fun _ => rfl) (fun _ _ _ z => nomatch z)
    · rw [star1 h3]
      rfl
    · rw [star1 h3]
      rfl
  · cases h
theorem s_kit (ia : IH Φ cs a) : IH Φ cs (.kit a) := by
  intro X c md xs g h
  simp only [chk] at h
  unfold cKit at h
  split at h
  · simp only [Bool.and_eq_true, beq_iff_eq] at h
    exact .it h.1 rfl fun tg _ => di_kit (ia.at g h.2).pe
  · cases h
theorem s_call {f : Nat} (ir : IH Φ cs r) : IH Φ cs (.call f r) := by
  intro X c md xs g h
  simp only [chk] at h
  unfold cCall at h
  split at h
  · simp only [Bool.and_eq_true, decide_eq_true_eq, beq_iff_eq] at h
    obtain ⟨h1, h2, h0, h3, h4, h5, h6⟩ := h
    obtain ⟨k, fa, fd, ps, F, hr, hm, hk, hb⟩ := (g.call f _ h2).ok
    refine .val h1 (PE.imp (fun σ H Q ⟨B, ρ, d, dm, re, h, q⟩ => ?_) (pe_call F hr (gl_of g h3) hm hk hb .nil pass0 (ir.ar g h6) (dbg_of h0).1 (star1 h4 _ _) (starL h5))) (fun _ => rfl) (fun _ _ _ z => nomatch z)
    obtain ⟨ds, hx, hz⟩ := opL_some h
    refine ⟨B, ρ, ds, dm, re, hx, fun vs H1 e1 rs => ?_⟩
    show spD X.K (Φ f) (vs ++ []) H1 Q E0
    rw [List.append_nil]
    exact ⟨B, ds, d, dm.mono e1, rs, hz, fun v H2 e2 rv => q v H2 (e1.trans e2) rv⟩
  · cases h
theorem s_rng1 (ia : IH Φ cs a) : IH Φ cs (.rng1 a) := by
  intro X c md xs g h
  simp only [chk] at h
  unfold cIt1 at h
  split at h
  · simp only [Bool.and_eq_true, beq_iff_eq] at h
    obtain ⟨h1, rfl, h2, h3, h4⟩ := h
    exact .it h1 rfl fun tg _ => di_rng1 rfl (gl_of g h2) (g.blt _ mem_range) (ia.at g h4).pe (star1 h3 _ _)
  · cases h
theorem s_rng2 (ia : IH Φ cs a) (ib : IH Φ cs b) : IH Φ cs (.rng2 a b) := by
  intro X c md xs g h
  simp only [chk] at h
  unfold cIt2 at h
  split at h
  · simp only [Bool.and_eq_true, beq_iff_eq] at h
    obtain ⟨h1, rfl, h2, h3, h3', h4, h5⟩ := h
    exact .it h1 rfl fun tg _ => di_rng2 rfl (gl_of g h2) (g.blt _ mem_range) (ia.at g h4).pe (ib.at g h5).pe (star1 h3 _ _) (star1 h3' _ _)
  · cases h
theorem s_enm (ia : IH Φ cs a) : IH Φ cs (.enm a) := by
  intro X c md xs g h
  simp only [chk] at h
  unfold cIt1 at h
  split at h
  · simp only [Bool.and_eq_true, beq_iff_eq] at h
    obtain ⟨h1, rfl, h2, h3, h4⟩ := h
    refine .it h1 rfl fun tg ht => ?_
    have ht' := ht rfl
    cases tg <;> first | (cases ht'; done) | skip
    exact di_enm rfl (gl_of g h2) (g.blt _ mem_enum) (ia.at g h4).pe (star1 h3 _ _)
  · cases h
theorem s_zp (ia : IH Φ cs a) (ib : IH Φ cs b) : IH Φ cs (.zp a b) := by
  intro X c md xs g h
  simp only [chk] at h
  unfold cIt2 at h
  split at h
  · simp only [Bool.and_eq_true, beq_iff_eq] at h
    obtain ⟨h1, rfl, h2, h3, h3', h4, h5⟩ := h
    refine .it h1 rfl fun tg ht => ?_
    have ht' := ht rfl
    cases tg <;> first | (cases ht'; done) | skip
    exact di_zp rfl (gl_of g h2) (g.blt _ mem_zip) (ia.at g h4).pe (ib.at g h5).pe (star1 h3 _ _) (star1 h3' _ _) (starL (by rw [List.all_cons, h3']; rfl))
  · cases h
theorem ifs_of (it : IH Φ cs t) (g : Good X c Φ cs) {ifs : List Expr} (h : cIfs t (chk t) c ifs = true) : PTs X ifs (eT X.K (ev Φ cs t)) := by
  unfold cIfs at h
  split at h
  · split at h
    · subst h
      exact dts_nil
    · cases h
  · rw [Bool.and_eq_true] at h
    exact dts_one ((it.at g h.2).pt h.1)
  · cases h
theorem ownOf_snd (c : CC) (vs : List Nat) : (ownOf c vs).map (·.2) = vs := by
  unfold ownOf
  rw [List.map_map]
  exact List.map_id vs
theorem subL_of {tg vs : List Nat} (h : subL tg vs = true) : ∀ i ∈ tg, i ∈ vs := fun i hi => of_decide_eq_true (List.all_eq_true.mp h i hi)
theorem tgb_of (g : Good X c Φ cs) {tg : List Nat} {pair : Bool} {e : Expr} {scope : Scope} (h : tgE (c.blk scope) tg pair e = true) :
    ∃ t, (∀ (s : Shared) (H : Hp) (C : Addr) (cl : List (Str × Addr)) (fp : List Addr), PG (X.blk s H scope (compEnvC scope cl C X.env) fp) e t) ∧ TgD X.K t tg pair := by
  cases e <;> first | (cases h; done) | skip
  · have h' := h
    simp only [tgE, Bool.and_eq_true, Bool.not_eq_true'] at h'
    obtain ⟨h1, h2⟩ := h'
    subst h1
    split at h2
    · rename_i j
      refine ⟨gName j, fun s H C cl fp => ?_, tg_name j⟩
      have g' := g.blk s H scope C cl fp
      simp only [Bool.and_eq_true, beq_iff_eq] at h2
      obtain ⟨l1, l2⟩ := loc_of g' h2.2
      exact pg_name (g'.N ▸ g'.nd) (by rw [g'.N]; exact h2.1) l1 l2
    · cases h2
  · rename_i es k pos
    have h' := h
    simp only [tgE, Bool.and_eq_true] at h'
    obtain ⟨h1, _⟩ := h'
    subst h1
    refine ⟨gTup X.K tg.length (gsOf tg), fun s H C cl fp => ?_, tg_tup tg⟩
    have g' := g.blk s H scope C cl fp
    have hN : (X.blk s H scope (compEnvC scope cl C X.env) fp).N.Nodup := g'.N ▸ g'.nd
    have h2 := h
    simp only [tgE, Bool.and_eq_true] at h2
    have gen : ∀ (tg : List Nat) (es : List Expr), tgC (c.blk scope) tg es = true → PGs (X.blk s H scope (compEnvC scope cl C X.env) fp) es (gsOf tg) ∧ (assignEach es (compEnvC scope cl C X.env)).length = tg.length ∧ (assignEach es (compEnvC scope cl C X.env)).findIdx? (·.1) = none := by
      intro tg
      induction tg with
      | nil =>
        intro es h
        cases es with
        | nil => exact ⟨pgs_nil, rfl, rfl⟩
        | cons e es => cases h
      | cons j js ih =>
        intro es h
        cases es with
        | nil => cases h
        | cons e es =>
          cases e <;> first | (cases h; done) | skip
          rename_i x px
          simp only [tgC, Bool.and_eq_true, beq_iff_eq] at h
          obtain ⟨⟨h1, h2⟩, h3⟩ := h
          obtain ⟨a, b, d⟩ := ih es h3
          obtain ⟨l1, l2⟩ := loc_of g' h2
          refine ⟨pgs_cons (pg_name (i := j) hN (by rw [g'.N]; exact h1) l1 l2) a (by rfl), ?_, ?_⟩
          · show (assignEach es (compEnvC scope cl C X.env)).length + 1 = js.length + 1
            rw [b]
          · show ((false, assign (.Name x px) (compEnvC scope cl C X.env)) :: assignEach es (compEnvC scope cl C X.env)).findIdx? (·.1) = none
            rw [List.findIdx?_cons]
            simp only [Bool.false_eq_true, if_false, d, Option.map_none]
    obtain ⟨a, b, d⟩ := gen tg es h2.2
    exact pg_tup g'.calm a b d

theorem s_comp {vs tg : List Nat} {pair : Bool} (ii : IH Φ cs it) (itt : IH Φ cs t) (ie : IH Φ cs e) : IH Φ cs (.comp vs tg pair it t e) := by
  intro X c md xs g h
  simp only [chk] at h
  unfold cComp at h
  split at h
  · simp only [Bool.and_eq_true, decide_eq_true_eq, Bool.or_eq_true, Bool.not_eq_true'] at h
    obtain ⟨h1, h2, h3, h4, h5, h6, h7, h8, h9⟩ := h
    rename_i elt tge iter ifs scope pos
    have hb : BlkOk X.N X.env.scope scope (ownOf c vs) := by
      rw [g.N, g.sc]
      exact blkOk_by h2
    obtain ⟨gt, hg, hgd⟩ := tgb_of g h3
    have hi : PI X tge iter (eI X.K fun ρ => itemsO (ev Φ cs it ρ)) := ii.itr g h7 fun z => by
      rcases h6 with h6 | h6
      · rw [z] at h6
        cases h6
      · exact h6
    refine .val h1 ?_ (fun _ => rfl) (fun _ _ _ z => nomatch z)
    have p := de_comp (X := X) (t := ev Φ cs t) (k := ev Φ cs e) (ifs := ifs) (pos := pos) g.calm (g.N ▸ g.nd) hi hb hgd (by rw [ownOf_snd]; exact subL_of h4) hg
      (fun s H C cl fp => ifs_of itt (g.blk s H scope C cl fp) h9) (fun s H C cl fp => (ie.at (g.blk s H scope C cl fp) h8).pe) (fold_of h5)
    rw [ownOf_snd] at p
    exact p
  · cases h
theorem s_comp2 {vs : List Nat} {j j1 : Nat} (ii : IH Φ cs it) (ii1 : IH Φ cs it1) (itt : IH Φ cs t) (ie : IH Φ cs e) : IH Φ cs (.comp2 vs j j1 it it1 t e) := by
  intro X c md xs g h
  simp only [chk] at h
  unfold cComp2 at h
  split at h
  · simp only [Bool.and_eq_true, decide_eq_true_eq, Bool.not_eq_true'] at h
    obtain ⟨h1, h2, h3, h3', h4, h5, h5', h6, h6', h7, h7', h8, h9⟩ := h
    rename_i elt tge iter tge1 iter1 ifs scope pos
    have hb : BlkOk X.N X.env.scope scope (ownOf c vs) := by
      rw [g.N, g.sc]
      exact blkOk_by h2
    have sub := subL_of h4
    have nm : ∀ (tge : Expr) (j : Nat), tgE (c.blk scope) [j] false tge = true → ∀ (s : Shared) (H : Hp) (C : Addr) (cl : List (Str × Addr)) (fp : List Addr), PG (X.blk s H scope (compEnvC scope cl C X.env) fp) tge (gName j) := by
      intro tge j h s H C cl fp
      cases tge <;> first | (cases h; done) | skip
      · have g' := g.blk s H scope C cl fp
        simp only [tgE, Bool.and_eq_true, beq_iff_eq] at h
        obtain ⟨l1, l2⟩ := loc_of g' h.2.2
        exact pg_name (g'.N ▸ g'.nd) (by rw [g'.N]; exact h.2.1) l1 l2
    refine .val h1 ?_ (fun _ => rfl) (fun _ _ _ z => nomatch z)
    have p := de_comp2 (X := X) (t := ev Φ cs t) (k := ev Φ cs e) (ifs1 := ifs) (pos := pos) (j := j) (j1 := j1) g.calm (g.N ▸ g.nd) (ii.itr g h7 fun z => by rw [z] at h6; cases h6) hb (by rw [ownOf_snd]; exact sub _ List.mem_cons_self) (by rw [ownOf_snd]; exact sub _ (List.mem_cons_of_mem _ List.mem_cons_self))
      (nm tge j h3) (fun s H C cl fp => ii1.itr (g.blk s H scope C cl fp) h7' fun z => by rw [z] at h6'; cases h6') (nm tge1 j1 h3')
      (fun s H C cl fp => ifs_of itt (g.blk s H scope C cl fp) h9) (fun s H C cl fp => (ie.at (g.blk s H scope C cl fp) h8).pe) (fold_of h5) (fun env x => fold_of h5' x)
    rw [ownOf_snd] at p
    exact p
  · cases h
/-- THE RULE for expressions -/
theorem snd_all (m : E) : IH Φ cs m := by
  induction m with
  | var i => exact s_var
  | int i => exact s_int
  | bl b => exact s_bl
  | non => exact s_non
  | str s => exact s_str
  | con j => exact s_con
  | nil => exact s_nil
  | cons a r ia ir => exact s_cons ia ir
  | tup r ir => exact s_tup ir
  | lst r ir => exact s_lst ir
  | dnew => exact s_dnew
  | d1 k v ia ib => exact s_d1 ia ib
  | d2 k v k2 v2 ia ib ic idd => exact s_d2 ia ib ic idd
  | bin op a b ia ib => exact s_bin ia ib
  | neg a ia => exact s_neg ia
  | nt a ia => exact s_nt ia
  | an a b ia ib => exact s_an ia ib
  | orr a b ia ib => exact s_orr ia ib
  | cmp op a b ia ib => exact s_cmp ia ib
  | chain op op' a b d ia ib idd => exact s_chain ia ib idd
  | din ng k d ia ib => exact s_din ia ib
  | ife t a b it ia ib => exact s_ife it ia ib
  | blt f r ir => exact s_blt ir
  | isi a T ia => exact s_isi ia
  | isi2 a T U ia => exact s_isi2 ia
  | ix a b ia ib => exact s_ix ia ib
  | dget a b ia ib => exact s_dget ia ib
  | dget2 a b d ia ib idd => exact s_dget2 ia ib idd
  | back a ia => exact s_back ia
  | ktup a ia => exact s_ktup ia
  | tix a b ia ib => exact s_tix ia ib
  | kit a ia => exact s_kit ia
  | sl a ia => exact s_sl ia
  | slA a b ia ib => exact s_slA ia ib
  | slB a b ia ib => exact s_slB ia ib
  | slAB a b d ia ib idd => exact s_slAB ia ib idd
  | lrng a ia => exact s_lrng ia
  | trng a ia => exact s_trng ia
  | call f r ir => exact s_call ir
  | rng1 a ia => exact s_rng1 ia
  | rng2 a b ia ib => exact s_rng2 ia ib
  | enm a ia => exact s_enm ia
  | zp a b ia ib => exact s_zp ia ib
  | comp vs tg pair it t e ii itt ie => exact s_comp ii itt ie
  | comp2 vs j j1 it it1 t e ii ii1 itt ie => exact s_comp2 ii ii1 itt ie
end
end DL
/-! DL9: the state of a def's body by data: slots that hold data, and slots that hold a list or a dict that is still changed. -/
namespace DL
open PySem PySem.Spec PyProof.Rows L2

inductive Slot where
  | und | val (d : D) | lst (ds : List D) | dic (m : List ((Int × Int) × Int)) | rows (dss : List (List D))
def Slot.snap : Slot → Option D
  | .und => none | .val d => some d | .lst ds => some (.lst ds) | .dic m => some (.dic m) | .rows dss => some (.lst (dss.map D.lst))
def Slot.frz : Slot → Option D
  | .val d => some d
  | _ => none
abbrev State := List Slot
def snapE (st : State) : Env := st.map Slot.snap
def frzE (st : State) : Env := st.map Slot.frz
inductive Rs where
  | nx (st : State) | rt (d : D)

def RowsOk (K : PySem.W.Frag) (B : Addr → Prop) (H : Hp) : List (List D) → List Addr → Prop
  | [], [] => True
  | ds :: dss, q :: qs => (∃ vs, H q = some (.lst vs) ∧ RpL K B H ds vs) ∧ RowsOk K B H dss qs
  | _, _ => False
def SlotOk (K : PySem.W.Frag) (B : Addr → Prop) (H : Hp) : Slot → Option V → List Addr → Prop
  | .und, _, fp => fp = []
  | .val d, o, fp => fp = [] ∧ ∃ v, o = some v ∧ Rp K B H d v
  | .lst ds, o, fp => ∃ p vs, o = some (.ref p) ∧ fp = [p] ∧ H p = some (.lst vs) ∧ RpL K B H ds vs
  | .dic m, o, fp => ∃ p, o = some (.ref p) ∧ fp = [p] ∧ H p = some (.dT (encD m))
  | .rows dss, o, fp => ∃ p qs, o = some (.ref p) ∧ fp = p :: qs ∧ H p = some (.lst (qs.map V.ref)) ∧ RowsOk K B H dss qs
def Bf (B0 : Addr → Prop) (fp : Nat → List Addr) : Addr → Prop := fun a => B0 a ∨ ∃ i, a ∈ fp i
structure SR (K : PySem.W.Frag) (B0 : Addr → Prop) (H0 : Hp) (fp : Nat → List Addr) (st : State) (σ : L2.St) (H : Hp) : Prop where
  ex : Ex H0 H
  len : st.length = σ.length
  slot : ∀ (i : Nat) (s : Slot) (o : Option V), st[i]? = some s → σ[i]? = some o → SlotOk K (Bf B0 fp) H s o (fp i)
  nw : ∀ (i : Nat) (p : Addr), p ∈ fp i → H0 p = none ∧ ∃ o, H p = some o
  nd : ∀ i, (fp i).Nodup
  dj : ∀ (i j : Nat) (p : Addr), p ∈ fp i → p ∈ fp j → i = j
  out : ∀ i, st.length ≤ i → fp i = []
def SRel (K : PySem.W.Frag) (B0 : Addr → Prop) (H0 : Hp) (st : State) (σ : L2.St) (H : Hp) : Prop := ∃ fp, SR K B0 H0 fp st σ H
section
variable {K : PySem.W.Frag} {B B' B0 : Addr → Prop} {H0 H H' : Hp} {fp : Nat → List Addr} {st : State} {σ : L2.St}
theorem RowsOk.mono (e : ∀ q o, H q = some o → q ∈ ([] : List Addr) ∨ H' q = some o) (r : ∀ {ds : List D} {vs : List V}, RpL K B H ds vs → RpL K B' H' ds vs) : ∀ {dss : List (List D)} {qs : List Addr}, RowsOk K B H dss qs → RowsOk K B' H' dss qs
  | [], [], _ => trivial
  | ds :: dss, q :: qs, ⟨⟨vs, h1, h2⟩, t⟩ => ⟨⟨vs, (e q _ h1).resolve_left (fun z => nomatch z), r h2⟩, RowsOk.mono e r t⟩
  | [], _ :: _, h => h.elim
  | _ :: _, [], h => h.elim
theorem SlotOk.ex {s : Slot} {o : Option V} {f : List Addr} (h : SlotOk K B H s o f) (e : Ex H H') (hb : ∀ a, B' a → B a ∨ H a = none) : SlotOk K B' H' s o f := by
  cases s with
  | und => exact h
  | val d =>
    obtain ⟨h1, v, h2, h3⟩ := h
    exact ⟨h1, v, h2, h3.mono e.toB hb⟩
  | lst ds =>
    obtain ⟨p, vs, h1, h2, h3, h4⟩ := h
    exact ⟨p, vs, h1, h2, e _ _ h3, h4.mono e.toB hb⟩
  | dic m =>
    obtain ⟨p, h1, h2, h3⟩ := h
    exact ⟨p, h1, h2, e _ _ h3⟩
  | rows dss =>
    obtain ⟨p, qs, h1, h2, h3, h4⟩ := h
    exact ⟨p, qs, h1, h2, e _ _ h3, h4.mono (fun q o z => .inr (e _ _ z)) fun r => r.mono e.toB hb⟩
theorem SR.step (r : SR K B0 H0 fp st σ H) (e : Ex H H') : SR K B0 H0 fp st σ H' :=
  ⟨r.ex.trans e, r.len, fun i s o h1 h2 => (r.slot i s o h1 h2).ex e fun _ q => .inl q, fun i p h => let ⟨a, o, b⟩ := r.nw i p h; ⟨a, o, e _ _ b⟩, r.nd, r.dj, r.out⟩
theorem SR.dom (r : SR K B0 H0 fp st σ H) (d : Dom B0 H0) : Dom (Bf B0 fp) H := fun a h => by
  rcases h with h | ⟨i, h⟩
  · obtain ⟨o, e⟩ := d a h
    exact ⟨o, r.ex _ _ e⟩
  · exact (r.nw i a h).2
theorem SR.off (r : SR K B0 H0 fp st σ H) (d : Dom B0 H0) {i : Nat} {p : Addr} (h : p ∈ fp i) : ¬ B0 p := fun z => by
  obtain ⟨o, e⟩ := d p z
  rw [(r.nw i p h).1] at e
  cases e
theorem SR.get (r : SR K B0 H0 fp st σ H) {i : Nat} {s : Slot} (h : st[i]? = some s) : ∃ o, σ[i]? = some o ∧ SlotOk K (Bf B0 fp) H s o (fp i) := by
  have hi := (List.getElem?_eq_some_iff.mp h).1
  have hi2 : i < σ.length := by rw [← r.len]; exact hi
  exact ⟨σ[i], List.getElem?_eq_getElem hi2, r.slot i s _ h (List.getElem?_eq_getElem hi2)⟩
theorem rows_rp {qs : List Addr} (off : ∀ q, q ∈ qs → ¬ B q) (hB : ∀ {ds : List D} {vs : List V}, RpL K B' H ds vs → RpL K B H ds vs) : ∀ {dss : List (List D)} {qs' : List Addr}, (∀ q, q ∈ qs' → q ∈ qs) → RowsOk K B' H dss qs' → RpL K B H (dss.map D.lst) (qs'.map V.ref)
  | [], [], _, _ => .nil
  | ds :: dss, q :: qs', hq, ⟨⟨vs, h1, h2⟩, t⟩ => .cons (.lst h1 (off q (hq q List.mem_cons_self)) (hB h2)) (rows_rp off hB (fun z hz => hq z (List.mem_cons_of_mem _ hz)) t)
  | [], _ :: _, _, h => h.elim
  | _ :: _, [], _, h => h.elim
/-- what is seen of the state, and what of it may be kept -/
theorem SR.env0 (r : SR K B0 H0 fp st σ H) (dm : Dom B0 H0) : RpE K B0 H (snapE st) σ := by
  refine ⟨by unfold snapE; rw [List.length_map]; exact r.len, fun i d h => ?_⟩
  unfold snapE at h
  rw [List.getElem?_map] at h
  cases e : st[i]? with
  | none => rw [e] at h; cases h
  | some s =>
    rw [e] at h
    obtain ⟨o, ho, sl⟩ := r.get e
    have weak : ∀ {ds : List D} {vs : List V}, RpL K (Bf B0 fp) H ds vs → RpL K B0 H ds vs := fun x => x.mono (ExB.refl H) fun a z => .inl (.inl z)
    cases s with
    | und => cases h
    | val d' =>
      cases h
      obtain ⟨_, v, rfl, rv⟩ := sl
      exact ⟨v, ho, rv.mono (ExB.refl H) fun a z => .inl (.inl z)⟩
    | lst ds =>
      cases h
      obtain ⟨p, vs, rfl, hf, h1, h2⟩ := sl
      exact ⟨_, ho, .lst h1 (r.off dm (i := i) (by rw [hf]; exact List.mem_cons_self)) (weak h2)⟩
    | dic m =>
      cases h
      obtain ⟨p, rfl, hf, h1⟩ := sl
      exact ⟨_, ho, .dic h1 (r.off dm (i := i) (by rw [hf]; exact List.mem_cons_self))⟩
    | rows dss =>
      cases h
      obtain ⟨p, qs, rfl, hf, h1, h2⟩ := sl
      refine ⟨_, ho, .lst h1 (r.off dm (i := i) (by rw [hf]; exact List.mem_cons_self)) ?_⟩
      exact rows_rp (qs := qs) (fun q hq => r.off dm (i := i) (by rw [hf]; exact List.mem_cons_of_mem _ hq)) weak (fun q z => z) h2
theorem SR.envF (r : SR K B0 H0 fp st σ H) : RpE K (Bf B0 fp) H (frzE st) σ := by
  refine ⟨by unfold frzE; rw [List.length_map]; exact r.len, fun i d h => ?_⟩
  unfold frzE at h
  rw [List.getElem?_map] at h
  cases e : st[i]? with
  | none => rw [e] at h; cases h
  | some s =>
    rw [e] at h
    obtain ⟨o, ho, sl⟩ := r.get e
    cases s with
    | val d' =>
      cases h
      obtain ⟨_, v, rfl, rv⟩ := sl
      exact ⟨v, ho, rv⟩
    | _ => cases h
theorem SR.domB (r : SR K B0 H0 fp st σ H) (dm : Dom B0 H0) : Dom B0 H := dm.mono r.ex

/-! ### changing the state -/
def fset (fp : Nat → List Addr) (i : Nat) (f : List Addr) : Nat → List Addr := fun k => if k = i then f else fp k
theorem fset_same {i : Nat} {f : List Addr} : fset fp i f i = f := if_pos rfl
theorem fset_ne {i k : Nat} {f : List Addr} (h : k ≠ i) : fset fp i f k = fp k := if_neg h
/-- slot i is given a new content (footprint f), the rest stands -/
theorem SR.put (r : SR K B0 H0 fp st σ H) {i : Nat} (hi : i < st.length) {s : Slot} {o : Option V} {f : List Addr} (ex : Ex H0 H') (keep : ∀ (k : Nat) (s' : Slot) (o' : Option V), k ≠ i → SlotOk K (Bf B0 fp) H s' o' (fp k) → SlotOk K (Bf B0 (fset fp i f)) H' s' o' (fp k))
    (hf : ∀ p, p ∈ f → H0 p = none ∧ (∃ o, H' p = some o) ∧ ∀ k, k ≠ i → p ∉ fp k) (nd : f.Nodup) (there : ∀ k p, k ≠ i → p ∈ fp k → ∃ o, H' p = some o)
    (new : SlotOk K (Bf B0 (fset fp i f)) H' s o f) : SR K B0 H0 (fset fp i f) (st.set i s) (σ.set i o) H' := by
  refine ⟨ex, by rw [List.length_set, List.length_set]; exact r.len, fun k s' o' h1 h2 => ?_, fun k p hp => ?_, fun k => ?_, fun k j p h1 h2 => ?_, fun k hk => ?_⟩
  · rw [get_set] at h1 h2
    by_cases c : i = k
    · subst c
      rw [if_pos rfl, if_pos hi] at h1
      rw [if_pos rfl, if_pos (by rw [← r.len]; exact hi)] at h2
      cases h1
      cases h2
      rw [fset_same]
      exact new
    · rw [if_neg c] at h1 h2
      rw [fset_ne (Ne.symm c)]
      exact keep k s' o' (Ne.symm c) (r.slot k s' o' h1 h2)
  · by_cases c : k = i
    · rw [c, fset_same] at hp
      exact ⟨(hf p hp).1, (hf p hp).2.1⟩
    · rw [fset_ne c] at hp
      exact ⟨(r.nw k p hp).1, there k p c hp⟩
  · by_cases c : k = i
    · rw [c, fset_same]
      exact nd
    · rw [fset_ne c]
      exact r.nd k
  · by_cases c : k = i
    · by_cases c2 : j = i
      · rw [c, c2]
      · rw [c, fset_same] at h1
        rw [fset_ne c2] at h2
        exact absurd h2 ((hf p h1).2.2 j c2)
    · rw [fset_ne c] at h1
      by_cases c2 : j = i
      · rw [c2, fset_same] at h2
        exact absurd h1 ((hf p h2).2.2 k c)
      · rw [fset_ne c2] at h2
        exact r.dj k j p h1 h2
  · rw [List.length_set] at hk
    rw [fset_ne (by omega)]
    exact r.out k hk
theorem Bf_sub {i : Nat} {f : List Addr} (hf : ∀ p, p ∈ f → Bf B0 fp p ∨ H p = none) : ∀ a, Bf B0 (fset fp i f) a → Bf B0 fp a ∨ H a = none := fun a h => by
  rcases h with h | ⟨k, h⟩
  · exact .inl (.inl h)
  · by_cases c : k = i
    · rw [c, fset_same] at h
      exact hf a h
    · rw [fset_ne c] at h
      exact .inl (.inr ⟨k, h⟩)
/-- a value that may be kept is stored -/
theorem SR.val (r : SR K B0 H0 fp st σ H) {i : Nat} (hi : i < st.length) {d : D} {v : V} (h : Rp K (Bf B0 fp) H d v) : ∃ fp', SR K B0 H0 fp' (st.set i (.val d)) (σ.set i (some v)) H ∧ ∀ a, Bf B0 fp' a → Bf B0 fp a ∨ H a = none := by
  have sub := Bf_sub (B0 := B0) (fp := fp) (H := H) (i := i) (f := []) fun p hp => nomatch hp
  exact ⟨_, r.put hi r.ex (fun k s' o' _ h => h.ex (Ex.refl H) sub) (fun p hp => nomatch hp) List.nodup_nil (fun k p _ hp => (r.nw k p hp).2) ⟨rfl, v, rfl, h.mono (ExB.refl H) sub⟩, sub⟩
theorem SR.fresh_ne (r : SR K B0 H0 fp st σ H) {p : Addr} (np : H p = none) (k : Nat) : p ∉ fp k := fun hp => by
  obtain ⟨_, o, e⟩ := r.nw k p hp
  rw [np] at e
  cases e
/-- a new list is stored, to be changed -/
theorem SR.newL (r : SR K B0 H0 fp st σ H) {i : Nat} (hi : i < st.length) {p : Addr} {ds : List D} {vs : List V} (e : Ex H H') (np : H p = none) (hp : H' p = some (.lst vs)) (h : RpL K (upB (Bf B0 fp) p) H' ds vs) :
    ∃ fp', SR K B0 H0 fp' (st.set i (.lst ds)) (σ.set i (some (.ref p))) H' ∧ ∀ a, Bf B0 fp' a → Bf B0 fp a ∨ H a = none := by
  have sub := Bf_sub (B0 := B0) (fp := fp) (H := H) (i := i) (f := [p]) fun q hq => .inr (List.mem_singleton.mp hq ▸ np)
  have np0 : H0 p = none := r.ex.fresh np
  refine ⟨_, r.put hi (r.ex.trans e) (fun k s' o' _ h => h.ex e sub) (fun q hq => ?_) (List.nodup_cons.mpr ⟨(fun z => nomatch z), List.nodup_nil⟩) (fun k q _ hq => ?_) ⟨p, vs, rfl, rfl, hp, h.mono (ExB.refl H') fun a z => .inl ?_⟩, sub⟩
  · rw [List.mem_singleton.mp hq]
    exact ⟨np0, ⟨_, hp⟩, fun k _ => r.fresh_ne np k⟩
  · obtain ⟨_, o, z⟩ := r.nw k q hq
    exact ⟨o, e _ _ z⟩
  · rcases z with z | ⟨k, z⟩
    · exact .inl (.inl z)
    · by_cases c : k = i
      · rw [c, fset_same] at z
        exact .inr (List.mem_singleton.mp z)
      · rw [fset_ne c] at z
        exact .inl (.inr ⟨k, z⟩)
theorem SR.newD (r : SR K B0 H0 fp st σ H) {i : Nat} (hi : i < st.length) {p : Addr} (np : H p = none) : ∃ fp', SR K B0 H0 fp' (st.set i (.dic [])) (σ.set i (some (.ref p))) (upd H p (.dT [])) ∧ ∀ a, Bf B0 fp' a → Bf B0 fp a ∨ H a = none := by
  have sub := Bf_sub (B0 := B0) (fp := fp) (H := H) (i := i) (f := [p]) fun q hq => .inr (List.mem_singleton.mp hq ▸ np)
  have e : Ex H (upd H p (.dT [])) := Ex.new np
  refine ⟨_, r.put hi (r.ex.trans e) (fun k s' o' _ h => h.ex e sub) (fun q hq => ?_) (List.nodup_cons.mpr ⟨(fun z => nomatch z), List.nodup_nil⟩) (fun k q _ hq => ?_) ⟨p, rfl, rfl, upd_same⟩, sub⟩
  · rw [List.mem_singleton.mp hq]
    exact ⟨r.ex.fresh np, ⟨_, upd_same⟩, fun k _ => r.fresh_ne np k⟩
  · obtain ⟨_, o, z⟩ := r.nw k q hq
    exact ⟨o, e _ _ z⟩
theorem ne_hd {p q : Addr} {l : List Addr} (h : p ∉ q :: l) : q ≠ p := fun z => h (by rw [z]; exact List.mem_cons_self)
/-- other slots stand where an own object of slot i is written -/
theorem SlotOk.upd {s : Slot} {o : Option V} {p : Addr} {u : HO} {f : List Addr} (hp : Bf B0 fp p) (hf : p ∉ f) (h : SlotOk K (Bf B0 fp) H s o f) : SlotOk K (Bf B0 fp) (upd H p u) s o f := by
  have e : ExB (Bf B0 fp) H (L2.upd H p u) := ExB.upd hp
  have rr : ∀ {ds : List D} {vs : List V}, RpL K (Bf B0 fp) H ds vs → RpL K (Bf B0 fp) (L2.upd H p u) ds vs := fun r => r.mono e fun a z => .inl z
  cases s with
  | und => exact h
  | val d =>
    obtain ⟨h1, v, h2, h3⟩ := h
    exact ⟨h1, v, h2, h3.mono e fun a z => .inl z⟩
  | lst ds =>
    obtain ⟨q, vs, h1, h2, h3, h4⟩ := h
    subst h2
    exact ⟨q, vs, h1, rfl, by rw [upd_ne (ne_hd hf)]; exact h3, rr h4⟩
  | dic m =>
    obtain ⟨q, h1, h2, h3⟩ := h
    subst h2
    exact ⟨q, h1, rfl, by rw [upd_ne (ne_hd hf)]; exact h3⟩
  | rows dss =>
    obtain ⟨q, qs, h1, h2, h3, h4⟩ := h
    subst h2
    refine ⟨q, qs, h1, rfl, by rw [upd_ne (ne_hd hf)]; exact h3, ?_⟩
    have gen : ∀ {dss : List (List D)} {qs : List Addr}, (∀ x ∈ qs, x ≠ p) → RowsOk K (Bf B0 fp) H dss qs → RowsOk K (Bf B0 fp) (L2.upd H p u) dss qs := by
      intro dss
      induction dss with
      | nil =>
        intro qs _ h
        cases qs with
        | nil => trivial
        | cons x qs => exact h.elim
      | cons ds dss ih =>
        intro qs hx h
        cases qs with
        | nil => exact h.elim
        | cons x qs =>
          obtain ⟨⟨vs, h1, h2⟩, t⟩ := h
          exact ⟨⟨vs, by rw [upd_ne (hx x List.mem_cons_self)]; exact h1, rr h2⟩, ih (fun y hy => hx y (List.mem_cons_of_mem _ hy)) t⟩
    exact gen (fun x hx z => hf (by rw [← z]; exact List.mem_cons_of_mem _ hx)) h4
theorem fset_id {i : Nat} : fset fp i (fp i) = fp := by
  funext k
  unfold fset
  split
  · rename_i h
    rw [h]
  · rfl
theorem set_id {α : Type} {l : List α} {i : Nat} {x : α} (h : l[i]? = some x) : l.set i x = l := by
  apply List.ext_getElem?
  intro k
  rw [get_set]
  by_cases c : i = k
  · subst c
    rw [if_pos rfl, if_pos (List.getElem?_eq_some_iff.mp h).1, h]
  · rw [if_neg c]
theorem Ex.upd {H0 H : Hp} {p : Addr} {u : HO} (e : Ex H0 H) (n : H0 p = none) : Ex H0 (upd H p u) := e.mut n
/-- the own object at p of slot i is written; its content by data is s -/
theorem SR.write (r : SR K B0 H0 fp st σ H) {i : Nat} {s0 s : Slot} {p : Addr} {u : HO} (h0 : st[i]? = some s0) (hp : p ∈ fp i) (new : ∀ o, σ[i]? = some o → SlotOk K (Bf B0 fp) H s0 o (fp i) → SlotOk K (Bf B0 fp) (upd H p u) s o (fp i)) :
    SRel K B0 H0 (st.set i s) σ (upd H p u) := by
  obtain ⟨o, ho, sl⟩ := r.get h0
  have hi := (List.getElem?_eq_some_iff.mp h0).1
  have z := r.put (s := s) (o := o) (f := fp i) hi (r.ex.upd (u := u) (r.nw i p hp).1) (fun k s' o' hk h => by
    rw [fset_id]
    exact h.upd (.inr ⟨i, hp⟩) fun hk2 => hk (r.dj k i p hk2 hp)) (fun q hq => ⟨(r.nw i q hq).1, ?_, fun k hk hq2 => hk (r.dj k i q hq2 hq)⟩) (r.nd i) (fun k q hk hq => ?_) (by rw [fset_id]; exact new o ho sl)
  · rw [fset_id, set_id ho] at z
    exact ⟨_, z⟩
  · by_cases c : q = p
    · rw [c]; exact ⟨_, upd_same⟩
    · rw [upd_ne c]
      exact (r.nw i q hq).2
  · by_cases c : q = p
    · rw [c]; exact ⟨_, upd_same⟩
    · rw [upd_ne c]
      exact (r.nw k q hq).2
/-- an own list becomes plain data -/
theorem SR.freeze (r : SR K B0 H0 fp st σ H) (dm : Dom B0 H0) {i : Nat} {ds : List D} (h0 : st[i]? = some (.lst ds)) : ∃ fp' p, σ[i]? = some (some (.ref p)) ∧ SR K B0 H0 fp' (st.set i (.val (.lst ds))) σ H ∧ Rp K (Bf B0 fp') H (.lst ds) (.ref p) := by
  obtain ⟨o, ho, sl⟩ := r.get h0
  obtain ⟨p, vs, rfl, hf, h1, h2⟩ := sl
  have hi := (List.getElem?_eq_some_iff.mp h0).1
  have hpi : p ∈ fp i := by rw [hf]; exact List.mem_cons_self
  have sub := Bf_sub (B0 := B0) (fp := fp) (H := H) (i := i) (f := []) fun p hp => nomatch hp
  have rp : Rp K (Bf B0 (fset fp i [])) H (.lst ds) (.ref p) := by
    refine .lst h1 (fun z => ?_) (h2.mono (ExB.refl H) sub)
    rcases z with z | ⟨k, z⟩
    · exact r.off dm hpi z
    · by_cases c : k = i
      · rw [c, fset_same] at z
        cases z
      · rw [fset_ne c] at z
        exact c (r.dj k i p z hpi)
  have z := r.put (s := .val (.lst ds)) (o := some (.ref p)) (f := []) hi r.ex (fun k s' o' _ h => h.ex (Ex.refl H) sub) (fun p hp => nomatch hp) List.nodup_nil (fun k p _ hp => (r.nw k p hp).2) ⟨rfl, _, rfl, rp⟩
  rw [set_id ho] at z
  exact ⟨_, p, ho, z, rp⟩
/-- forgetting a slot's own object is not needed: it is overwritten by put -/
theorem SR.weakH {H1 : Hp} (r : SR K B0 H0 fp st σ H) (e : Ex H1 H0) : SR K B0 H1 fp st σ H :=
  ⟨e.trans r.ex, r.len, r.slot, fun i p h => ⟨e.fresh (r.nw i p h).1, (r.nw i p h).2⟩, r.nd, r.dj, r.out⟩
end
/-- the part of a heap that stands while a loop runs -/
def Hfz (fp : Nat → List Addr) (H : Hp) (dec : ∀ a, Decidable (∃ i, a ∈ fp i)) : Hp := fun a => @ite _ (∃ i, a ∈ fp i) (dec a) none (H a)
section
variable {K : PySem.W.Frag} {B B' B0 : Addr → Prop} {H0 H H' : Hp} {fp : Nat → List Addr} {st : State} {σ : L2.St}
/-- entering a loop -/
theorem SR.loop (r : SR K B0 H0 fp st σ H) : ∃ Hf : Hp, Ex H0 Hf ∧ SR K B0 Hf fp st σ H ∧ (∀ a, Hf a = none → Bf B0 fp a ∨ H a = none) ∧ (∀ H2, Ex Hf H2 → ExB (Bf B0 fp) H H2) := by
  refine ⟨Hfz fp H (fun a => Classical.propDecidable _), fun a o h => ?_, ?_, fun a h => ?_, fun H2 e a o n h => ?_⟩
  · unfold Hfz
    rw [if_neg]
    · exact r.ex a o h
    · intro ⟨i, z⟩
      rw [(r.nw i a z).1] at h
      cases h
  · refine ⟨fun a o h => ?_, r.len, r.slot, fun i p hp => ⟨?_, (r.nw i p hp).2⟩, r.nd, r.dj, r.out⟩
    · unfold Hfz at h
      split at h
      · cases h
      · exact h
    · unfold Hfz
      rw [if_pos ⟨i, hp⟩]
  · unfold Hfz at h
    split at h
    · rename_i z
      exact .inl (.inr z)
    · exact .inr h
  · refine e a o ?_
    unfold Hfz
    rw [if_neg]
    · exact h
    · exact fun z => n (.inr z)
end
end DL
/-! DL10: the statement language, its evaluator, and the rules of each statement by data. -/
namespace DL
open PySem PySem.Spec PyProof.Rows L2

inductive Kd | val | lst | dic
  deriving DecidableEq
inductive S where
  | skip
  | seq (a b : S)
  | asg (i : Nat) (e : E)
  | own (k : Kd) (i : Nat) (e : E)
  | ownR (i : Nat) (vs : List Nat) (j : Nat) (it : E)
  | frz (i j : Nat)
  | par (i j : Nat) (ka kb : Kd) (a b : E)
  | unp (tg : List Nat) (e : E)
  | app (i : Nat) (e : E)
  | appF (i j : Nat)
  | appP (i j : Nat) (k : E)
  | setL (i : Nat) (k e : E)
  | setD (i : Nat) (k e : E)
  | setR (i : Nat) (k k2 e : E)
  | ite (t : E) (a b : S)
  | for_ (tg : List Nat) (pair : Bool) (it : E) (body : S)
  | fz (i : Nat) (m : S)
  | setC (i : Nat) (k : E) (f : Nat) (k2 r : E)
  | ret (e : E)
  | retN

mutual
/-- scalars and tuples of such: nobody changes them -/
def keepD : D → Bool
  | .non => true | .bl _ => true | .int _ => true | .str _ => true
  | .tup xs => keepL xs
  | .lst _ => false | .dic _ => false | .scr _ => false | .ktup _ => false
def keepL : List D → Bool
  | [] => true
  | x :: xs => keepD x && keepL xs
end
def retain (f : Env → Option D) (st : State) : Option D := match f (snapE st) with
  | some d => if scalD d then some d else (match f (frzE st) with
    | some d' => some d'
    | none => if keepD d then some d else none)
  | none => none
def valS (o : Option D) : Option Slot := match o with
  | some d => some (.val d)
  | none => none
def lstS (o : Option D) : Option Slot := match o with
  | some (.lst ds) => some (.lst ds)
  | _ => none
def setS (st : State) (i : Nat) (s : Option Slot) : Option Rs := match s with
  | some s => if i < st.length then some (.nx (st.set i s)) else none
  | none => none
def setS2 (st : State) (i j : Nat) (a b : Option Slot) : Option Rs := match a, b with
  | some a, some b => if i < st.length ∧ j < st.length then some (.nx ((st.set i a).set j b)) else none
  | _, _ => none
def rowsD : List D → Option (List (List D))
  | [] => some []
  | d :: r => match seqD d, rowsD r with
    | some ds, some rest => some (ds :: rest)
    | _, _ => none
def setAllS (st : State) : List Nat → List D → Option State
  | [], [] => some st
  | i :: is, d :: ds => if i < st.length then setAllS (st.set i (.val d)) is ds else none
  | _, _ => none
def bindS (st : State) (tg : List Nat) (pair : Bool) (d : D) : Option State := match pair, tg, d with
  | true, tg, .tup ds => setAllS st tg ds
  | false, [j], d => if j < st.length then some (st.set j (.val d)) else none
  | _, _, _ => none
def nxS (o : Option State) : Option Rs := match o with
  | some st => some (.nx st)
  | none => none
def unpS (f : Env → Option D) (st : State) (tg : List Nat) : Option Rs := match itemsO (f (snapE st)) with
  | some ds => if ds.all scalD then nxS (setAllS st tg ds) else (match itemsO (f (frzE st)) with
    | some ds => nxS (setAllS st tg ds)
    | none => none)
  | none => none
def isRng : E → Bool
  | .rng1 _ => true
  | .rng2 _ _ => true
  | _ => false
def frzS (st : State) (i j : Nat) : Option Rs := match st[j]? with
  | some (.lst ds) => if i < st.length ∧ i ≠ j then some (.nx ((st.set j (.val (.lst ds))).set i (.val (.lst ds)))) else none
  | _ => none
def appS (st : State) (i : Nat) (o : Option D) : Option Rs := match st[i]?, o with
  | some (.lst ds), some d => if ds.length ≤ lim then some (.nx (st.set i (.lst (ds ++ [d])))) else none
  | _, _ => none
def appFS (st : State) (i j : Nat) : Option Rs := match st[i]?, st[j]? with
  | some (.lst ds), some (.lst es) => if ds.length ≤ lim ∧ i ≠ j then some (.nx ((st.set j (.val (.lst es))).set i (.lst (ds ++ [.lst es])))) else none
  | _, _ => none
/-- x.append(y.pop(k)) -/
def appPS (st : State) (i j : Nat) (k : Option D) : Option Rs := match st[i]?, st[j]?, k with
  | some (.lst es), some (.lst ds), some (.int n) => if 0 ≤ n ∧ n.toNat < ds.length ∧ ds.length ≤ lim ∧ es.length ≤ lim ∧ i ≠ j then (match ds[n.toNat]? with
    | some d => if scalD d then some (.nx ((st.set j (.lst (ds.eraseIdx n.toNat))).set i (.lst (es ++ [d])))) else none
    | none => none) else none
  | _, _, _ => none
def setLS (st : State) (i : Nat) (k o : Option D) : Option Rs := match st[i]?, k, o with
  | some (.lst ds), some (.int n), some d => (match ixN ds.length n with
    | some j => some (.nx (st.set i (.lst (ds.set j d))))
    | none => none)
  | _, _, _ => none
def setDS (st : State) (i : Nat) (k o : Option D) : Option Rs := match st[i]?, k, o with
  | some (.dic m), some k, some (.int v) => (match keyD k with
    | some kk => if m.length ≤ lim then some (.nx (st.set i (.dic (dput m kk v)))) else none
    | none => none)
  | _, _, _ => none
def setRS (st : State) (i : Nat) (k k2 o : Option D) : Option Rs := match st[i]?, k, k2, o with
  | some (.rows dss), some (.int n), some (.int n2), some d => (match ixN dss.length n with
    | some j => (match dss[j]? with
      | some ds => (match ixN ds.length n2 with
        | some j2 => some (.nx (st.set i (.rows (dss.set j (ds.set j2 d)))))
        | none => none)
      | none => none)
    | none => none)
  | _, _, _, _ => none
def thaw (st : State) (i : Nat) : State := match st[i]? with
  | some (.lst ds) => st.set i (.val (.lst ds))
  | _ => st
/-- x[k] = f(x[k2], ..), x an own list -/
def setCS (st : State) (i : Nat) (k k2 : Option D) (Φ : List D → Option D) (r : Option D) : Option Rs := match st[i]?, k, k2, r with
  | some (.lst ds), some (.int n), some (.int n2), some (.lst as) => (match ixN ds.length n with
    | some j => (match atI ds n2 with
      | some x => (match Φ (x :: as) with
        | some d => some (.nx (st.set i (.lst (ds.set j d))))
        | none => none)
      | none => none)
    | none => none)
  | _, _, _, _ => none
def forL (f : D → State → Option Rs) : List D → State → Option Rs
  | [], st => some (.nx st)
  | d :: ds, st => match f d st with
    | some (.nx st') => forL f ds st'
    | some (.rt r) => some (.rt r)
    | none => none
def onS (o : Option State) (g : State → Option Rs) : Option Rs := match o with
  | some st => g st
  | none => none
def onL (o : Option (List D)) (g : List D → Option Rs) : Option Rs := match o with
  | some ds => g ds
  | none => none
def thenS (r : Option Rs) (g : State → Option Rs) : Option Rs := match r with
  | some (.nx st) => g st
  | some (.rt d) => some (.rt d)
  | none => none
def iteS (t : Option D) (a b : Option Rs) : Option Rs := match t with
  | some (.bl true) => a
  | some (.bl false) => b
  | _ => none
def rtS (o : Option D) : Option Rs := match o with
  | some d => some (.rt d)
  | none => none
section
variable (Φ : Nat → List D → Option D) (cs : Nat → Int)
def evK (k : Kd) (e : E) (st : State) : Option Slot := match k with
  | .val => valS (retain (ev Φ cs e) st)
  | .lst => lstS (ev Φ cs e (frzE st))
  | .dic => some (.dic [])
def itemsS (it : E) (st : State) : Option (List D) := if isRng it then itemsO (ev Φ cs it (snapE st)) else itemsO (ev Φ cs it (frzE st))
def ex : S → State → Option Rs
  | .skip, st => some (.nx st)
  | .seq a b, st => thenS (ex a st) (ex b)
  | .asg i e, st => setS st i (valS (retain (ev Φ cs e) st))
  | .own k i e, st => setS st i (evK Φ cs k e st)
  | .ownR i vs j it, st => if j < st.length then setS st i (match itemsO (ev Φ cs it (frzE st)) with
    | some ds => if ds.length ≤ 4096 then (match rowsD ds with
      | some dss => some (.rows dss)
      | none => none) else none
    | none => none) else none
  | .frz i j, st => frzS st i j
  | .par i j ka kb a b, st => setS2 st i j (evK Φ cs ka a st) (evK Φ cs kb b st)
  | .unp tg e, st => unpS (ev Φ cs e) st tg
  | .app i e, st => appS st i (retain (ev Φ cs e) st)
  | .appF i j, st => appFS st i j
  | .appP i j k, st => appPS st i j (ev Φ cs k (snapE st))
  | .setL i k e, st => setLS st i (ev Φ cs k (snapE st)) (retain (ev Φ cs e) st)
  | .setD i k e, st => setDS st i (ev Φ cs k (snapE st)) (ev Φ cs e (snapE st))
  | .setR i k k2 e, st => setRS st i (ev Φ cs k (snapE st)) (ev Φ cs k2 (snapE st)) (retain (ev Φ cs e) st)
  | .ite t a b, st => iteS (ev Φ cs t (snapE st)) (ex a st) (ex b st)
  | .for_ tg pair it body, st => onL (itemsS Φ cs it st) fun ds => forL (fun d st => onS (bindS st tg pair d) (ex body)) ds st
  | .fz i m, st => ex m (thaw st i)
  | .setC i k f k2 r, st => setCS st i (ev Φ cs k (snapE st)) (ev Φ cs k2 (snapE st)) (Φ f) (ev Φ cs r (frzE st))
  | .ret e, st => rtS (ev Φ cs e (snapE st))
  | .retN, _ => some (.rt .non)
end

/-! ### judgements -/
def Post (K : PySem.W.Frag) (B0 : Addr → Prop) (H0 : Hp) (D : Ends) : Rs → Prop
  | .nx st => ∀ σ H, SRel K B0 H0 st σ H → D.nx σ H
  | .rt d => ∀ v H, Ex H0 H → Rp K B0 H d v → D.rt v H
def tS (K : PySem.W.Frag) (g : State → Option Rs) : TS := fun D σ H => ∃ B0 H0 st r, Dom B0 H0 ∧ SRel K B0 H0 st σ H ∧ g st = some r ∧ Post K B0 H0 D r
section
variable {X : Cx} {Φ : Nat → List D → Option D} {cs : Nat → Int} {s : Stmt} {ss : List Stmt} {g g' : State → Option Rs} {f : Env → Option D} {e : Expr}
theorem PS.imp {t t' : TS} (i : ∀ D σ H, t' D σ H → t D σ H) (h : PS X s t) : PS X s t' := ⟨fun pins s σ H D I q => h.run pins s σ H D I (i D σ H q)⟩
theorem PSs.imp {t t' : TS} (i : ∀ D σ H, t' D σ H → t D σ H) (h : PSs X ss t) : PSs X ss t' := ⟨fun pins s σ H D I q => h.run pins s σ H D I (i D σ H q)⟩
theorem ds_nil : PSs X [] (tS X.K fun st => some (.nx st)) := PSs.imp (fun D σ H ⟨B0, H0, st, r, dm, sr, h, p⟩ => by
  cases h
  exact p σ H sr) pss_nil
theorem ds_cons (h1 : PS X s (tS X.K g)) (h2 : PSs X ss (tS X.K g')) : PSs X (s :: ss) (tS X.K fun st => thenS (g st) g') := PSs.imp (fun D σ H ⟨B0, H0, st, r, dm, sr, h, p⟩ => by
  dsimp only at h
  cases e : g st with
  | none => rw [e] at h; cases h
  | some r1 =>
    rw [e] at h
    cases r1 with
    | nx st1 => exact ⟨B0, H0, st, _, dm, sr, e, fun σ1 H1 sr1 => ⟨B0, H0, st1, r, dm, sr1, h, p⟩⟩
    | rt d =>
      cases h
      exact ⟨B0, H0, st, _, dm, sr, e, p⟩) (pss_cons h1 h2)
/-- what may be kept -/
theorem ret_some {st : State} {d : D} (h : retain f st = some d) : (f (snapE st) = some d ∧ keepD d = true) ∨ f (frzE st) = some d := by
  unfold retain at h
  cases e : f (snapE st) with
  | none => rw [e] at h; cases h
  | some x =>
    rw [e] at h
    dsimp only at h
    split at h
    · rename_i c
      cases h
      refine .inl ⟨rfl, ?_⟩
      cases d <;> first | rfl | (cases c; done)
    · split at h
      · rename_i e2
        cases h
        exact .inr e2
      · split at h
        · cases h
          exact .inl ⟨rfl, by assumption⟩
        · cases h
mutual
theorem keep_rp {K : PySem.W.Frag} {B B' : Addr → Prop} {H : Hp} (hB : ∀ a, B' a → B a ∨ ∀ vs, H a ≠ some (.tup vs)) : ∀ {d : D} {v : V}, Rp K B H d v → keepD d = true → Rp K B' H d v
  | _, _, .non, _ => .non
  | _, _, .bl b, _ => .bl b
  | _, _, .int i, _ => .int i
  | _, _, .str s, _ => .str s
  | _, _, .tup h n r, c => .tup h (fun z => (hB _ z).elim n fun q => q _ h) (keep_rpL hB r (by rw [keepD] at c; exact c))
  | _, _, .lst _ _ _, c => by cases c
  | _, _, .dic _ _, c => by cases c
  | _, _, .scr _, c => by cases c
  | _, _, .ktp _ _ _, c => by cases c
theorem keep_rpL {K : PySem.W.Frag} {B B' : Addr → Prop} {H : Hp} (hB : ∀ a, B' a → B a ∨ ∀ vs, H a ≠ some (.tup vs)) : ∀ {ds : List D} {vs : List V}, RpL K B H ds vs → keepL ds = true → RpL K B' H ds vs
  | _, _, .nil, _ => .nil
  | _, _, .cons r t, c => by
    rw [keepL, Bool.and_eq_true] at c
    exact .cons (keep_rp hB r c.1) (keep_rpL hB t c.2)
end
theorem rows_mut {K : PySem.W.Frag} {B : Addr → Prop} {H : Hp} : ∀ {dss : List (List D)} {qs : List Addr}, RowsOk K B H dss qs → ∀ q, q ∈ qs → ∀ vs, H q ≠ some (.tup vs)
  | [], [], _, q, hq => nomatch hq
  | _ :: _, _ :: _, ⟨⟨_, h1, _⟩, t⟩, q, hq => by
    rcases List.mem_cons.mp hq with z | z
    · intro vs e
      rw [z, h1] at e
      cases e
    · exact rows_mut t q z
  | [], _ :: _, h, _, _ => h.elim
  | _ :: _, [], h, _, _ => h.elim
/-- own objects are lists and dicts -/
theorem SR.mut {K : PySem.W.Frag} {B0 : Addr → Prop} {H0 H : Hp} {fp : Nat → List Addr} {st : State} {σ : L2.St} (r : SR K B0 H0 fp st σ H) : ∀ a, Bf B0 fp a → B0 a ∨ ∀ vs, H a ≠ some (.tup vs) := fun a h => by
  rcases h with h | ⟨i, h⟩
  · exact .inl h
  · right
    by_cases hi : i < st.length
    · obtain ⟨o, ho, sl⟩ := r.get (List.getElem?_eq_getElem hi)
      cases hs : st[i] with
      | und =>
        rw [hs] at sl
        rw [show fp i = [] from sl] at h
        cases h
      | val d =>
        rw [hs] at sl
        rw [sl.1] at h
        cases h
      | lst ds =>
        rw [hs] at sl
        obtain ⟨p, vs, _, h2, h3, _⟩ := sl
        rw [h2] at h
        intro vs' e
        rw [List.mem_singleton.mp h, h3] at e
        cases e
      | dic m =>
        rw [hs] at sl
        obtain ⟨p, _, h2, h3⟩ := sl
        rw [h2] at h
        intro vs' e
        rw [List.mem_singleton.mp h, h3] at e
        cases e
      | rows dss =>
        rw [hs] at sl
        obtain ⟨p, qs, _, h2, h3, h4⟩ := sl
        rw [h2] at h
        intro vs' e
        rcases List.mem_cons.mp h with z | z
        · rw [z, h3] at e
          cases e
        · exact rows_mut h4 a z vs' e
    · rw [r.out i (by omega)] at h
      cases h
section
variable {K : PySem.W.Frag} {B0 B : Addr → Prop} {H0 H H1 : Hp} {fp : Nat → List Addr} {st : State} {σ : L2.St} {d : D} {Q : VK}
/-- the state's environments seen from a later heap, off a larger set -/
theorem SR.env0' (r : SR K B0 H0 fp st σ H) (dm : Dom B0 H0) (e : Ex H H1) : RpE K B0 H1 (snapE st) σ := (r.env0 dm).ex e
theorem SR.envF' (r : SR K B0 H0 fp st σ H) (e : Ex H H1) (hb : ∀ a, B a → Bf B0 fp a ∨ H a = none) : RpE K B H1 (frzE st) σ := r.envF.mono e.toB hb
theorem run_ret (r : SR K B0 H0 fp st σ H) (dm : Dom B0 H0) (e : Ex H H1) (dB : Dom B H1) (hm : ∀ a, B a → B0 a ∨ ∀ vs, H1 a ≠ some (.tup vs)) (hb : ∀ a, B a → Bf B0 fp a ∨ H a = none) (h : retain f st = some d) (q : ∀ v H2, Ex H1 H2 → Rp K B H2 d v → Q v H2) : eD K f σ H1 Q := by
  rcases ret_some h with ⟨h1, h2⟩ | h1
  · exact ⟨B0, snapE st, d, (r.domB dm).mono e, r.env0' dm e, h1, fun v H2 e2 rv => q v H2 e2 (keep_rp (fun a z => (hm a z).imp id fun w vs e3 => by
      obtain ⟨o, ho⟩ := dB a z
      rw [e2 _ _ ho] at e3
      rw [ho] at w
      exact w vs e3) rv h2)⟩
  · exact ⟨B, frzE st, d, dB, r.envF' e hb, h1, q⟩
theorem run_snap (r : SR K B0 H0 fp st σ H) (dm : Dom B0 H0) (e : Ex H H1) (h : f (snapE st) = some d) (q : ∀ v H2, Ex H1 H2 → Rp K B0 H2 d v → Q v H2) : eD K f σ H1 Q :=
  ⟨B0, snapE st, d, (r.domB dm).mono e, r.env0' dm e, h, q⟩
end
theorem setS_some {st : State} {i : Nat} {o : Option Slot} {r : Rs} (h : setS st i o = some r) : ∃ s, o = some s ∧ i < st.length ∧ r = .nx (st.set i s) := by
  unfold setS at h
  split at h
  · split at h
    · cases h
      exact ⟨_, rfl, by assumption, rfl⟩
    · cases h
  · cases h
theorem valS_some {o : Option D} {s : Slot} (h : valS o = some s) : ∃ d, o = some d ∧ s = .val d := by
  unfold valS at h
  split at h
  · cases h
    exact ⟨_, rfl, rfl⟩
  · cases h
theorem lstS_some {o : Option D} {s : Slot} (h : lstS o = some s) : ∃ ds, o = some (.lst ds) ∧ s = .lst ds := by
  unfold lstS at h
  split at h
  · cases h
    exact ⟨_, rfl, rfl⟩
  · cases h
/-- an expression of a kind: plain data, a new list, a new dict -/
def eK (K : PySem.W.Frag) (k : Kd) (f : Env → Option D) : TE := match k with
  | .val => eD K f
  | .lst => eF K f
  | .dic => tDNewT
def evKf (k : Kd) (f : Env → Option D) (st : State) : Option Slot := match k with
  | .val => valS (retain f st)
  | .lst => lstS (f (frzE st))
  | .dic => some (.dic [])
theorem run_K {k : Kd} {K : PySem.W.Frag} {B0 : Addr → Prop} {H0 H H1 : Hp} {fp fp1 : Nat → List Addr} {st st1 : State} {σ σ1 : L2.St} {sl : Slot} {i : Nat} {Q : VK} (r : SR K B0 H0 fp st σ H) (dm : Dom B0 H0) (e : Ex H H1) (r1 : SR K B0 H0 fp1 st1 σ1 H1)
    (hb : ∀ a, Bf B0 fp1 a → Bf B0 fp a ∨ H a = none) (h : evKf k f st = some sl) (hi : i < st1.length)
    (q : ∀ v H2, Ex H1 H2 → (∃ fp2, SR K B0 H0 fp2 (st1.set i sl) (σ1.set i (some v)) H2 ∧ ∀ a, Bf B0 fp2 a → Bf B0 fp1 a ∨ H1 a = none) → Q v H2) : eK K k f σ H1 Q := by
  cases k with
  | val =>
    obtain ⟨d, h1, rfl⟩ := valS_some h
    refine run_ret (B := Bf B0 fp1) r dm e (r1.dom dm) r1.mut hb h1 fun v H2 e2 rv => q v H2 e2 ?_
    obtain ⟨fp2, s2, hs⟩ := (r1.step e2).val hi rv
    exact ⟨fp2, s2, fun a z => (hs a z).imp id fun z => e2.fresh z⟩
  | lst =>
    obtain ⟨ds, h1, rfl⟩ := lstS_some h
    refine ⟨Bf B0 fp1, frzE st, ds, r1.dom dm, r.envF' e hb, h1, fun p vs H2 e2 np hp rv => q _ H2 e2 ?_⟩
    exact r1.newL hi e2 np hp rv
  | dic =>
    cases h
    exact fun p np => q _ _ (Ex.new np) (r1.newD hi np)
theorem SRel.of {K : PySem.W.Frag} {B0 : Addr → Prop} {H0 H : Hp} {fp : Nat → List Addr} {st : State} {σ : L2.St} (r : SR K B0 H0 fp st σ H) : SRel K B0 H0 st σ H := ⟨fp, r⟩
theorem ds_own_run {k : Kd} {K : PySem.W.Frag} {i : Nat} : ∀ D σ H, tS K (fun st => setS st i (evKf k f st)) D σ H → tAsg (eK K k f) (gName i) D σ H := fun D σ H ⟨B0, H0, st, r, dm, ⟨fp, sr⟩, h, p⟩ => by
  obtain ⟨sl, h1, hi, rfl⟩ := setS_some h
  exact run_K sr dm (Ex.refl H) sr (fun a z => .inl z) h1 hi fun v H2 e2 ⟨fp2, s2, _⟩ => p _ H2 ⟨fp2, s2⟩
/-- x = e -/
theorem ds_own {k : Kd} {i : Nat} {x : Str} {px pos : Pos} (hN : X.N.Nodup) (hi : X.N[i]? = some x) (hx : Loc X.env.scope x) (hf : X.fn x = true ∨ X.env.scope.names.lookup x = some .local) (he : PE X e (eK X.K k f)) (hs : swapsWith e (some (.Name x px)) pos.line X.env = pure false) :
    PS X (.Assign [.Name x px] e pos) (tS X.K fun st => setS st i (evKf k f st)) := PS.imp ds_own_run (ps_set hN hi hx he hs hf)
theorem setS2_some {st : State} {i j : Nat} {a b : Option Slot} {r : Rs} (h : setS2 st i j a b = some r) : ∃ s t, a = some s ∧ b = some t ∧ i < st.length ∧ j < st.length ∧ r = .nx ((st.set i s).set j t) := by
  unfold setS2 at h
  split at h
  · split at h
    · rename_i c
      cases h
      exact ⟨_, _, rfl, rfl, c.1, c.2, rfl⟩
    · cases h
  · cases h
/-- x, y = a, b -/
theorem ds_par {ka kb : Kd} {i j : Nat} {x y : Str} {px py pt pos : Pos} {kt k2 : Nat} {pt2 : Pos} {a b : Expr} {fa fb : Env → Option D} (hc : X.calm = true) (hN : X.N.Nodup) (hi : X.N[i]? = some x) (hj : X.N[j]? = some y) (hij : i ≠ j)
    (hx : X.env.scope.names.lookup x = some .local) (hy : X.env.scope.names.lookup y = some .local) (ha : PE X a (eK X.K ka fa)) (hb : PE X b (eK X.K kb fb)) (hs1 : starEach [a, b] X.env = (false, eval a X.env) :: starEach [b] X.env) (hs2 : starEach [b] X.env = (false, eval b X.env) :: starEach [] X.env)
    (hw : swappedStores [.Tuple [.Name x px, .Name y py] kt pt] (.Tuple [a, b] k2 pt2) X.env = pure (some [x, y])) :
    PS X (.Assign [.Tuple [.Name x px, .Name y py] kt pt] (.Tuple [a, b] k2 pt2) pos) (tS X.K fun st => setS2 st i j (evKf ka fa st) (evKf kb fb st)) :=
  PS.imp (fun D σ H ⟨B0, H0, st, r, dm, ⟨fp, sr⟩, h, p⟩ => by
    obtain ⟨s1, s2, h1, h2, hi, hj, rfl⟩ := setS2_some h
    refine run_K sr dm (Ex.refl H) sr (fun a z => .inl z) h1 hi fun v H1 e1 ⟨fp1, r1, hb1⟩ => ?_
    refine run_K sr dm e1 r1 hb1 h2 (by rw [List.length_set]; exact hj) fun w H2 e2 ⟨fp2, r2, hb2⟩ => ⟨v, w, rfl, p _ H2 ⟨fp2, r2⟩⟩) (ps_par hc hN hi hj hij hx hy (pa_cons ha (pa_cons hb pa_nil hs2) hs1) hw)
/-- several names -/
theorem setAllS_ok {K : PySem.W.Frag} {B0 : Addr → Prop} {H0 H : Hp} : ∀ (tg : List Nat) {ds : List D} {vs : List V} {fp : Nat → List Addr} {st st' : State} {σ : L2.St} {Q : L2.St → Hp → Prop}, SR K B0 H0 fp st σ H → RpL K (Bf B0 fp) H ds vs → setAllS st tg ds = some st' →
    (∀ σ' fp', SR K B0 H0 fp' st' σ' H → (∀ a, Bf B0 fp' a → Bf B0 fp a ∨ H a = none) → Q σ' H) → gsOf tg vs σ H Q
  | [], [], _, fp, st, st', σ, Q, sr, .nil, h, q => by
    cases h
    exact ⟨rfl, q σ fp sr fun _ z => .inl z⟩
  | [], _ :: _, _, fp, st, st', σ, Q, sr, .cons _ _, h, q => by cases h
  | j :: js, [], _, fp, st, st', σ, Q, sr, .nil, h, q => by cases h
  | j :: js, d :: ds, _, fp, st, st', σ, Q, sr, .cons (v := v) (vs := vs) r t, h, q => by
    simp only [setAllS] at h
    split at h
    · rename_i hj
      obtain ⟨fp1, sr1, hb1⟩ := sr.val hj r
      refine ⟨v, vs, rfl, setAllS_ok js sr1 (t.mono (ExB.refl H) hb1) h fun σ' fp' r' hb' => q σ' fp' r' fun a z => ?_⟩
      rcases hb' a z with z | z
      · exact hb1 a z
      · exact .inr z
    · cases h
theorem setAllS_len : ∀ {tg : List Nat} {ds : List D} {st st' : State}, setAllS st tg ds = some st' → tg.length = ds.length
  | [], [], _, _, _ => rfl
  | [], _ :: _, _, _, h => by cases h
  | _ :: _, [], _, _, h => by cases h
  | _ :: js, _ :: ds, _, _, h => by
    simp only [setAllS] at h
    split at h
    · exact congrArg (· + 1) (setAllS_len h)
    · cases h
theorem scalL {K : PySem.W.Frag} {B B' : Addr → Prop} {H H' : Hp} : ∀ {ds : List D} {vs : List V}, ds.all scalD = true → RpL K B H ds vs → RpL K B' H' ds vs
  | _, _, _, .nil => .nil
  | _, _, h, .cons r t => by
    rw [List.all_cons, Bool.and_eq_true] at h
    exact .cons (r.scal h.1) (scalL h.2 t)
theorem nxS_some {o : Option State} {r : Rs} (h : nxS o = some r) : ∃ st, o = some st ∧ r = .nx st := by
  unfold nxS at h
  split at h
  · cases h
    exact ⟨_, rfl, rfl⟩
  · cases h
/-- a tuple or a list to several names -/
def gSeq (K : PySem.W.Frag) (n : Nat) (t : TGs) : TG := fun v σ H Q => ∃ a xs, v = .ref a ∧ (SqT K H a xs ∨ SqL K H a xs) ∧ xs.length = n ∧ t xs σ H Q
theorem pg_seq {es : List Expr} {kk n : Nat} {pos : Pos} {t : TGs} (hc : X.calm = true) (h : PGs X es t) (hn : (assignEach es X.env).length = n) (hst : (assignEach es X.env).findIdx? (·.1) = none) : PG X (.Tuple es kk pos) (gSeq X.K n t) :=
  ⟨fun pins s σ H v u Q I r ⟨a, xs, ev, hs, hl, hq⟩ => by
    rcases hs with hs | hs
    · exact (pg_tup hc h hn hst).run pins s σ H v u Q I r ⟨a, xs, ev, hs, hl, hq⟩
    · exact (pg_unl hc h hn hst).run pins s σ H v u Q I r ⟨a, xs, ev, hs, hl, hq⟩⟩
theorem itemsO_rp {K : PySem.W.Frag} {B : Addr → Prop} {H : Hp} {d : D} {ds : List D} {v : V} (h : itemsO (some d) = some ds) (r : Rp K B H d v) : ∃ a vs, v = .ref a ∧ (SqT K H a vs ∨ SqL K H a vs) ∧ RpL K B H ds vs := by
  rcases items_some h with h | h
  · cases h
    cases r with
    | @lst a vs _ h1 n1 r1 => exact ⟨a, vs, rfl, .inr (.of h1), r1⟩
  · cases h
    cases r with
    | @tup a vs _ h1 n1 r1 => exact ⟨a, vs, rfl, .inl (.of h1), r1⟩
theorem ds_unp {tg : List Nat} {es : List Expr} {kt : Nat} {pt pos : Pos} (hc : X.calm = true) (hg : PGs X es (gsOf tg)) (hn : (assignEach es X.env).length = tg.length) (hst : (assignEach es X.env).findIdx? (·.1) = none) (he : PE X e (eD X.K f))
    (hs : swapsWithSole [.Tuple es kt pt] e pos.line X.env = pure false) (hw : swappedStores [.Tuple es kt pt] e X.env = pure none) :
    PS X (.Assign [.Tuple es kt pt] e pos) (tS X.K fun st => unpS f st tg) :=
  PS.imp (fun D σ H ⟨B0, H0, st, r, dm, ⟨fp, sr⟩, h, p⟩ => by
    unfold unpS at h
    dsimp only at h
    cases e0 : f (snapE st) with
    | none => rw [e0] at h; cases h
    | some d =>
      rw [e0] at h
      cases e1 : itemsO (some d) with
      | none => rw [e1] at h; cases h
      | some ds =>
        rw [e1] at h
        simp only at h
        split at h
        · rename_i hs
          obtain ⟨st', h2, rfl⟩ := nxS_some h
          refine run_snap sr dm (Ex.refl H) e0 fun v H2 e2 rv => ?_
          obtain ⟨a, vs, ev, hsq, rl⟩ := itemsO_rp e1 rv
          exact ⟨a, vs, ev, hsq, by rw [← rl.length]; exact (setAllS_len h2).symm, setAllS_ok tg (sr.step e2) (scalL hs rl) h2 fun σ' fp' r' _ => p σ' H2 ⟨fp', r'⟩⟩
        · cases e3 : f (frzE st) with
          | none => rw [e3] at h; cases h
          | some d2 =>
            rw [e3] at h
            cases e4 : itemsO (some d2) with
            | none => rw [e4] at h; cases h
            | some ds2 =>
              rw [e4] at h
              obtain ⟨st', h2, rfl⟩ := nxS_some h
              refine ⟨Bf B0 fp, frzE st, d2, sr.dom dm, sr.envF, e3, fun v H2 e2 rv => ?_⟩
              obtain ⟨a, vs, ev, hsq, rl⟩ := itemsO_rp e4 rv
              exact ⟨a, vs, ev, hsq, by rw [← rl.length]; exact (setAllS_len h2).symm, setAllS_ok tg (sr.step e2) rl h2 fun σ' fp' r' _ => p σ' H2 ⟨fp', r'⟩⟩) (ps_asg he (pg_seq hc hg hn hst) hs hw (by rfl))
/-- return e -/
theorem ds_ret {pos : Pos} (he : PE X e (eD X.K f)) : PS X (.Return (some e) pos) (tS X.K fun st => rtS (f (snapE st))) :=
  PS.imp (fun D σ H ⟨B0, H0, st, r, dm, ⟨fp, sr⟩, h, p⟩ => by
    dsimp only at h
    cases e0 : f (snapE st) with
    | none => rw [e0] at h; cases h
    | some d =>
      rw [e0] at h
      cases h
      exact run_snap sr dm (Ex.refl H) e0 fun v H2 e2 rv => p v H2 (sr.ex.trans e2) rv) (ps_ret he)
theorem ds_retN {pos : Pos} : PS X (.Return none pos) (tS X.K fun _ => some (.rt .non)) :=
  PS.imp (fun D σ H ⟨B0, H0, st, r, dm, ⟨fp, sr⟩, h, p⟩ => by
    cases h
    exact p .non H sr.ex .non) ps_retN
theorem ds_ite {c : Expr} {a b : List Stmt} {pos : Pos} (hc : PT X c (eT X.K f)) (ha : PSs X a (tS X.K g)) (hb : PSs X b (tS X.K g')) : PS X (.If c a b pos) (tS X.K fun st => iteS (f (snapE st)) (g st) (g' st)) :=
  PS.imp (fun D σ H ⟨B0, H0, st, r, dm, ⟨fp, sr⟩, h, p⟩ => by
    unfold iteS at h
    dsimp only at h
    split at h
    · rename_i e0
      exact ⟨B0, snapE st, true, sr.domB dm, sr.env0 dm, e0, fun H1 e1 => iteT ⟨B0, H0, st, r, dm, ⟨fp, sr.step e1⟩, h, p⟩⟩
    · rename_i e0
      exact ⟨B0, snapE st, false, sr.domB dm, sr.env0 dm, e0, fun H1 e1 => iteF ⟨B0, H0, st, r, dm, ⟨fp, sr.step e1⟩, h, p⟩⟩
    · cases h) (ps_if hc ha hb)
/-- x.append(e) -/
theorem ds_app {i : Nat} {x : Str} {px apos cpos pos : Pos} (hN : X.N[i]? = some x) (hv : Vis X.env.scope x) (hd : (x == ("__debug__" : Str)) = false) (hcd : (x == ("__classdict__" : Str)) = false) (he : PE X e (eD X.K f)) (hstar : noStar e = true) (hline : (apos.endLine == cpos.line) = true) :
    PS X (.Expr (.Call (.Attribute (.Name x px) "append" apos) [e] [] cpos) pos) (tS X.K fun st => appS st i (retain f st)) :=
  PS.imp (fun D σ H ⟨B0, H0, st, r, dm, ⟨fp, sr⟩, h, p⟩ => by
    unfold appS at h
    dsimp only at h
    split at h
    · rename_i ds d h1 h2
      split at h
      · cases h
        obtain ⟨o, ho, sl⟩ := sr.get h1
        obtain ⟨pa, vs, rfl, hf, hp, rl⟩ := sl
        refine ⟨.ref pa, ho, .inl ⟨rfl, vs, .of hp⟩, run_ret (B := Bf B0 fp) sr dm (Ex.refl H) (sr.dom dm) sr.mut (fun _ z => .inl z) h2 fun v H2 e2 rv => ?_⟩
        have sr2 := sr.step e2
        refine ⟨pa, vs, v, rfl, rfl, e2 _ _ hp, ?_, p _ _ ?_⟩
        · rw [← rl.length]
          exact lim_lt (by assumption)
        · refine sr2.write (p := pa) h1 (by rw [hf]; exact List.mem_cons_self) fun o' ho' sl' => ?_
          rw [ho] at ho'
          cases ho'
          refine ⟨pa, vs ++ [v], rfl, hf, upd_same, ?_⟩
          exact ((rl.ex e2).snoc rv).mono (ExB.upd (.inr ⟨i, by rw [hf]; exact List.mem_cons_self⟩)) fun a z => .inl z
      · cases h
    · cases h) (ps_expr (pe_bm PySem.F.plainAttrs_list PySem.F.slot_list_append PySem.F.type_list_append mt_append (pe_var hN hv hd hcd) (pa_cons he pa_nil (star1 hstar _ _)) (by rfl) (by rw [star1 hstar]; rfl) hline (star1 hstar _ _) (by rfl)) (by rfl))
/-- x.append(y), y a list that was still changed -/
theorem ds_appF {i j : Nat} {x y : Str} {px py apos cpos pos : Pos} (hN : X.N[i]? = some x) (hv : Vis X.env.scope x) (hd : (x == ("__debug__" : Str)) = false) (hcd : (x == ("__classdict__" : Str)) = false) (hN2 : X.N[j]? = some y) (hv2 : Vis X.env.scope y) (hd2 : (y == ("__debug__" : Str)) = false) (hcd2 : (y == ("__classdict__" : Str)) = false) (hline : (apos.endLine == cpos.line) = true) :
    PS X (.Expr (.Call (.Attribute (.Name x px) "append" apos) [.Name y py] [] cpos) pos) (tS X.K fun st => appFS st i j) :=
  PS.imp (fun D σ H ⟨B0, H0, st, r, dm, ⟨fp, sr⟩, h, p⟩ => by
    unfold appFS at h
    dsimp only at h
    split at h
    · rename_i ds es h1 h2
      split at h
      · rename_i hc
        cases h
        obtain ⟨fp1, q, hq, sr1, rq⟩ := sr.freeze dm h2
        have h1' : (st.set j (.val (.lst es)))[i]? = some (.lst ds) := by
          rw [get_set, if_neg (Ne.symm hc.2)]
          exact h1
        obtain ⟨o, ho, sl⟩ := sr1.get h1'
        obtain ⟨pa, vs, rfl, hf, hp, rl⟩ := sl
        refine ⟨.ref pa, ho, .inl ⟨rfl, vs, .of hp⟩, .ref q, hq, pa, vs, .ref q, rfl, rfl, hp, ?_, p _ _ ?_⟩
        · rw [← rl.length]
          exact lim_lt hc.1
        · refine sr1.write (p := pa) h1' (by rw [hf]; exact List.mem_cons_self) fun o' ho' sl' => ?_
          rw [ho] at ho'
          cases ho'
          refine ⟨pa, vs ++ [.ref q], rfl, hf, upd_same, ?_⟩
          exact (rl.snoc rq).mono (ExB.upd (.inr ⟨i, by rw [hf]; exact List.mem_cons_self⟩)) fun a z => .inl z
      · cases h
    · cases h) (ps_expr (pe_bm PySem.F.plainAttrs_list PySem.F.slot_list_append PySem.F.type_list_append mt_append (pe_var hN hv hd hcd) (pa_cons (pe_var hN2 hv2 hd2 hcd2) pa_nil) (by rfl) (by rfl) hline (by rfl) (by rfl)) (by rfl))
theorem RpL.eraseIdx {K : PySem.W.Frag} {B : Addr → Prop} {H : Hp} : ∀ {ds : List D} {vs : List V} (k : Nat), RpL K B H ds vs → RpL K B H (ds.eraseIdx k) (vs.eraseIdx k)
  | _, _, _, .nil => .nil
  | _, _, 0, .cons _ t => t
  | _, _, k + 1, .cons r t => .cons r (RpL.eraseIdx k t)
/-- x.append(y.pop(k)) -/
theorem ds_appP {i j : Nat} {x y : Str} {px py apos cpos apos2 cpos2 pos : Pos} (hN : X.N[i]? = some x) (hv : Vis X.env.scope x) (hd : (x == ("__debug__" : Str)) = false) (hcd : (x == ("__classdict__" : Str)) = false) (hN2 : X.N[j]? = some y) (hv2 : Vis X.env.scope y) (hd2 : (y == ("__debug__" : Str)) = false) (hcd2 : (y == ("__classdict__" : Str)) = false)
    (he : PE X e (eD X.K f)) (hstar : noStar e = true) (hline : (apos.endLine == cpos.line) = true) (hline2 : (apos2.endLine == cpos2.line) = true) :
    PS X (.Expr (.Call (.Attribute (.Name x px) "append" apos) [.Call (.Attribute (.Name y py) "pop" apos2) [e] [] cpos2] [] cpos) pos) (tS X.K fun st => appPS st i j (f (snapE st))) :=
  PS.imp (fun D σ H ⟨B0, H0, st, r, dm, ⟨fp, sr⟩, h, p⟩ => by
    unfold appPS at h
    dsimp only at h
    split at h
    · rename_i es ds n h1 h2 h3
      split at h
      · rename_i hc
        obtain ⟨c1, c2, c3, c4, c5⟩ := hc
        split at h
        · rename_i d hd
          split at h
          · rename_i hsc
            cases h
            obtain ⟨o, ho, sl⟩ := sr.get h1
            obtain ⟨pa, vs, rfl, hf, hp, rl⟩ := sl
            obtain ⟨o2, ho2, sl2⟩ := sr.get h2
            obtain ⟨pb, us, rfl, hf2, hp2, rl2⟩ := sl2
            refine ⟨.ref pa, ho, .inl ⟨rfl, vs, .of hp⟩, .ref pb, ho2, .inl ⟨rfl, us, .of hp2⟩, run_snap sr dm (Ex.refl H) h3 fun v H2 e2 rv => ?_⟩
            cases rv
            obtain ⟨w, hw, rw'⟩ := rl2.get hd
            have hl2 := rl2.length
            have sr2 := sr.step e2
            refine ⟨pb, us, n, n.toNat, w, rfl, rfl, e2 _ _ hp2, by omega, ?_, ?_, hw, ?_⟩
            · have : lim = 100000 := rfl
              omega
            · unfold seqIndex?
              simp only []
              rw [← hl2]
              have q1 : ¬ n < 0 := by omega
              have q2 : n < (ds.length : Int) := by omega
              simp [q1, c1, q2]
            · obtain ⟨fp3, sr3⟩ := sr2.write (p := pb) (u := .lst (us.eraseIdx n.toNat)) (s := .lst (ds.eraseIdx n.toNat)) h2 (by rw [hf2]; exact List.mem_cons_self) fun o' ho' sl' => by
                rw [ho2] at ho'
                cases ho'
                exact ⟨pb, us.eraseIdx n.toNat, rfl, hf2, upd_same, ((rl2.ex e2).eraseIdx n.toNat).mono (ExB.upd (.inr ⟨j, by rw [hf2]; exact List.mem_cons_self⟩)) fun a z => .inl z⟩
              have h1' : (st.set j (.lst (ds.eraseIdx n.toNat)))[i]? = some (.lst es) := by
                rw [get_set, if_neg (Ne.symm c5)]
                exact h1
              obtain ⟨o', ho', sl'⟩ := sr3.get h1'
              obtain ⟨pa', vs', rfl, hf', hp', rl'⟩ := sl'
              cases ho.symm.trans ho'
              refine ⟨pa, vs', w, rfl, rfl, hp', ?_, p _ _ ?_⟩
              · rw [← rl'.length]
                exact lim_lt c4
              · refine sr3.write (p := pa) h1' (by rw [hf']; exact List.mem_cons_self) fun o' ho' sl' => ?_
                rw [ho] at ho'
                cases ho'
                refine ⟨pa, vs' ++ [w], rfl, hf', upd_same, ?_⟩
                exact (rl'.snoc (rw'.scal hsc)).mono (ExB.upd (.inr ⟨i, by rw [hf']; exact List.mem_cons_self⟩)) fun a z => .inl z
          · cases h
        · cases h
      · cases h
    · cases h) (ps_expr (pe_bm PySem.F.plainAttrs_list PySem.F.slot_list_append PySem.F.type_list_append mt_append (pe_var hN hv hd hcd) (pa_cons (pe_bm PySem.F.plainAttrs_list PySem.F.slot_list_pop PySem.F.type_list_pop mt_popAt (pe_var hN2 hv2 hd2 hcd2) (pa_cons he pa_nil (star1 hstar _ _)) (by rfl) (by rw [star1 hstar]; rfl) hline2 (star1 hstar _ _) (by rfl)) pa_nil) (by rfl) (by rfl) hline (by rfl) (by rfl)) (by rfl))
/-- x = y, y a list that was still changed -/
theorem ds_frz {i j : Nat} {x y : Str} {px py pos : Pos} (hN : X.N.Nodup) (hi : X.N[i]? = some x) (hx : Loc X.env.scope x) (hf : X.fn x = true ∨ X.env.scope.names.lookup x = some .local) (hN2 : X.N[j]? = some y) (hv2 : Vis X.env.scope y) (hd2 : (y == ("__debug__" : Str)) = false) (hcd2 : (y == ("__classdict__" : Str)) = false) :
    PS X (.Assign [.Name x px] (.Name y py) pos) (tS X.K fun st => frzS st i j) :=
  PS.imp (fun D σ H ⟨B0, H0, st, r, dm, ⟨fp, sr⟩, h, p⟩ => by
    unfold frzS at h
    dsimp only at h
    split at h
    · rename_i es h2
      split at h
      · rename_i hc
        cases h
        obtain ⟨fp1, q, hq, sr1, rq⟩ := sr.freeze dm h2
        obtain ⟨fp2, sr2, _⟩ := sr1.val (i := i) (by rw [List.length_set]; exact hc.1) rq
        exact ⟨.ref q, hq, p _ _ ⟨fp2, sr2⟩⟩
      · cases h
    · cases h) (ps_set hN hi hx (pe_var hN2 hv2 hd2 hcd2) (by rfl) hf)
/-- x[k] = e, a dict -/
theorem ds_setD {i : Nat} {x : Str} {k : Expr} {px p2 pos : Pos} {fk : Env → Option D} (hu : X.A.units + 65 < cLine) (hN : X.N[i]? = some x) (hv : Vis X.env.scope x) (hd : (x == ("__debug__" : Str)) = false) (hcd : (x == ("__classdict__" : Str)) = false) (hk : PE X k (eD X.K fk)) (he : PE X e (eD X.K f))
    (hs : swapsWith e (some (.Subscript (.Name x px) k p2)) pos.line X.env = pure false) : PS X (.Assign [.Subscript (.Name x px) k p2] e pos) (tS X.K fun st => setDS st i (fk (snapE st)) (f (snapE st))) :=
  PS.imp (fun D σ H ⟨B0, H0, st, r, dm, ⟨fp, sr⟩, h, p⟩ => by
    unfold setDS at h
    dsimp only at h
    split at h
    · rename_i m kd n h1 h2 h3
      split at h
      · rename_i kk h4
        split at h
        · cases h
          obtain ⟨o, ho, sl⟩ := sr.get h1
          obtain ⟨pa, rfl, hf, hp⟩ := sl
          refine run_snap sr dm (Ex.refl H) h3 fun v H1 e1 rv => ⟨.ref pa, ho, run_snap sr dm e1 h2 fun u H2 e2 rk => ?_⟩
          cases rv
          obtain ⟨b, rfl, hb⟩ := keyD_rp rk h4
          have hp2 := e2 _ _ (e1 _ _ hp)
          refine ⟨pa, _, rfl, DPut.t hp2 hb ?_, p _ _ ?_⟩
          · unfold encD
            rw [List.length_map]
            exact lim_lt (by assumption)
          · rw [← dput_enc]
            refine (sr.step (e1.trans e2)).write (p := pa) h1 (by rw [hf]; exact List.mem_cons_self) fun o' ho' sl' => ?_
            rw [ho] at ho'
            cases ho'
            exact ⟨pa, rfl, hf, upd_same⟩
        · cases h
      · cases h
    · cases h) (ps_dput (by omega) (pe_var hN hv hd hcd) hk he hs)
theorem set_rp {K : PySem.W.Frag} {B : Addr → Prop} {H : Hp} {ds : List D} {vs : List V} {d : D} {v : V} (r : RpL K B H ds vs) (s : Rp K B H d v) (j : Nat) : RpL K B H (ds.set j d) (vs.set j v) := RpL.set s j r
/-- x[k] = e, a list -/
theorem ds_setL {i : Nat} {x : Str} {k : Expr} {px p2 pos : Pos} {fk : Env → Option D} (hN : X.N[i]? = some x) (hv : Vis X.env.scope x) (hd : (x == ("__debug__" : Str)) = false) (hcd : (x == ("__classdict__" : Str)) = false) (hk : PE X k (eD X.K fk)) (he : PE X e (eD X.K f)) (hks : noSlice k = true)
    (hs : swapsWithSole [.Subscript (.Name x px) k p2] e pos.line X.env = pure false) (hw : swappedStores [.Subscript (.Name x px) k p2] e X.env = pure none) : PS X (.Assign [.Subscript (.Name x px) k p2] e pos) (tS X.K fun st => setLS st i (fk (snapE st)) (retain f st)) :=
  PS.imp (fun D σ H ⟨B0, H0, st, r, dm, ⟨fp, sr⟩, h, p⟩ => by
    unfold setLS at h
    dsimp only at h
    split at h
    · rename_i ds n d h1 h2 h3
      split at h
      · rename_i j h4
        cases h
        obtain ⟨o, ho, sl⟩ := sr.get h1
        obtain ⟨pa, vs, rfl, hf, hp, rl⟩ := sl
        refine run_ret (B := Bf B0 fp) sr dm (Ex.refl H) (sr.dom dm) sr.mut (fun _ z => .inl z) h3 fun v H1 e1 rv => ⟨.ref pa, ho, run_snap sr dm e1 h2 fun u H2 e2 rk => ?_⟩
        cases rk
        refine ⟨pa, vs, n, j, rfl, rfl, e2 _ _ (e1 _ _ hp), by rw [← rl.length]; exact h4, p _ _ ?_⟩
        refine (sr.step (e1.trans e2)).write (p := pa) h1 (by rw [hf]; exact List.mem_cons_self) fun o' ho' sl' => ?_
        rw [ho] at ho'
        cases ho'
        exact ⟨pa, vs.set j v, rfl, hf, upd_same, (set_rp ((rl.ex e1).ex e2) (rv.ex e2) j).mono (ExB.upd (.inr ⟨i, by rw [hf]; exact List.mem_cons_self⟩)) fun a z => .inl z⟩
      · cases h
    · cases h) (ps_asg he (pg_sub (pe_var hN hv hd hcd) hk set_list (fun v => by cases k <;> first | rfl | (cases hks; done))) hs hw (by rfl))
/-- an own list is plain data from now on -/
theorem thaw_pre {m : State → Option Rs} {i : Nat} {D : Ends} {σ : L2.St} {H : Hp} (h : tS X.K (fun st => m (thaw st i)) D σ H) : tS X.K m D σ H := by
  obtain ⟨B0, H0, st, r, dm, ⟨fp, sr⟩, h, p⟩ := h
  dsimp only at h
  unfold thaw at h
  split at h
  · rename_i ds h0
    obtain ⟨fp1, q, _, sr1, _⟩ := sr.freeze dm h0
    exact ⟨B0, H0, _, r, dm, ⟨fp1, sr1⟩, h, p⟩
  · exact ⟨B0, H0, st, r, dm, ⟨fp, sr⟩, h, p⟩
theorem ds_setC {i : Nat} {x fn : Str} {k w : Expr} {es : List Expr} {px px2 p2 p3 pf pc pos : Pos} {fk fk2 fr : Env → Option D} {kk : Nat} {fa : Addr} {fd : FuncData} {ps : List Str} {G : List D → Option D} (hN : X.N[i]? = some x) (hv : Vis X.env.scope x) (hd : (x == ("__debug__" : Str)) = false) (hcd : (x == ("__classdict__" : Str)) = false)
    (F : FnOk X.prog X.w X.K X.mg X.base CX0 kk fa fd ps (fun vs H Q _ => ∃ B ds d, Dom B H ∧ RpL X.K B H ds vs ∧ G ds = some d ∧ ∀ v H', Ex H H' → Rp X.K B H' d v → Q v H')) (hr : Room kk X.A) (hg : Gl X fn) (hm : X.mg fn = some (.ref fa)) (hkp : PySem.W.keepIn X.K (.ref fa) = true) (hb : Binds X.K fd ps [])
    (hk : PE X k (eD X.K fk)) (hw2 : PE X w (eD X.K fk2)) (ha : PA X es (eA X.K fr)) (hks : noSlice k = true) (hws : noSlice w = true) (hdb : (fn == ("__debug__" : Str)) = false) (hpl : (backTo pc (starEach es X.env)).any (·.1) = false) :
    PS X (.Assign [.Subscript (.Name x px) k p2] (.Call (.Name fn pf) (.Subscript (.Name x px2) w p3 :: es) [] pc) pos) (tS X.K fun st => setCS st i (fk (snapE st)) (fk2 (snapE st)) G (fr (frzE st))) :=
  PS.imp (fun D σ H ⟨B0, H0, st, r, dm, ⟨fp, sr⟩, h, p⟩ => by
    unfold setCS at h
    dsimp only at h
    split at h
    · rename_i ds n n2 as h1 h2 h3 h4
      split at h
      · rename_i j h5
        split at h
        · rename_i y h6
          split at h
          · rename_i d h7
            cases h
            obtain ⟨o, ho, sl⟩ := sr.get h1
            obtain ⟨pa, vs, rfl, hf, hp, rl⟩ := sl
            refine ⟨.ref pa, ho, run_snap sr dm (Ex.refl H) h3 fun v1 H1 e1 rv1 => ?_⟩
            cases rv1
            obtain ⟨yv, hy, ry⟩ := atI_rp (rl.ex e1) h6
            refine .inl ⟨pa, vs, n2, yv, rfl, rfl, .of (e1 _ _ hp), hy, ?_⟩
            refine ⟨Bf B0 fp, frzE st, as, (sr.dom dm).mono e1, sr.envF' e1 (fun _ z => .inl z), h4, fun us H2 e2 ru => ?_⟩
            refine ⟨Bf B0 fp, y :: as, d, ((sr.dom dm).mono e1).mono e2, .cons (ry.ex e2) (by show RpL X.K (Bf B0 fp) H2 as (us ++ []); rw [List.append_nil]; exact ru), h7, fun v H3 e3 rv => ?_⟩
            have e13 := (e1.trans e2).trans e3
            refine ⟨.ref pa, ho, run_snap sr dm e13 h2 fun u H4 e4 rk => ?_⟩
            cases rk
            refine ⟨pa, vs, n, j, rfl, rfl, e4 _ _ (e13 _ _ hp), by rw [← rl.length]; exact h5, p _ _ ?_⟩
            refine (sr.step (e13.trans e4)).write (p := pa) h1 (by rw [hf]; exact List.mem_cons_self) fun o' ho' sl' => ?_
            rw [ho] at ho'
            cases ho'
            exact ⟨pa, vs.set j v, rfl, hf, upd_same, (set_rp ((rl.ex e13).ex e4) (rv.ex e4) j).mono (ExB.upd (.inr ⟨i, by rw [hf]; exact List.mem_cons_self⟩)) fun a z => .inl z⟩
          · cases h
        · cases h
      · cases h
    · cases h) (ps_asg (pe_call F hr hg hm hkp hb .nil pass0 (pa_cons (pe_ix ix_seq (pe_var hN hv hd hcd) hw2 (fun a b => by cases w <;> first | rfl | (cases hws; done))) ha (by rfl)) hdb (by rfl) hpl) (pg_sub (pe_var hN hv hd hcd) hk set_list (fun v => by cases k <;> first | rfl | (cases hks; done))) (by rfl) (by rfl) (by rfl))
end
end DL
/-! DL11: for, rows of lists, a comprehension assigned. -/
namespace DL
open PySem PySem.Spec PyProof.Rows L2
section
variable {X : Cx} {Φ : Nat → List D → Option D} {cs : Nat → Int} {s : Stmt} {ss : List Stmt} {g g' : State → Option Rs} {f : Env → Option D} {e : Expr}
/-! ### ranges, whatever is set apart -/
def eIR (K : PySem.W.Frag) (f : Env → Option (List D)) : TI := fun σ H R => ∃ B ρ ds, Dom B H ∧ RpE K B H ρ σ ∧ f ρ = some ds ∧ ∀ J H', Ex H H' → (∀ B', WkD K B' J H' ds) → R J H'
theorem dr_rng1 {tg a : Expr} {x : Str} {p pos : Pos} (ex : x = "range") (hg : Gl X x) (hm : X.mg x = none) (ha : PE X a (eD X.K f)) (hs : starEach [a] X.env = (false, eval a X.env) :: starEach [] X.env) :
    PI X tg (.Call (.Name x p) [a] [] pos) (eIR X.K fun ρ => itemsO (op1 rng1D (f ρ))) := by
  subst ex
  refine PI.imp (fun σ H R ⟨B, ρ, ds, dm, re, h, q⟩ => ?_) (pi_range1 hg hm (pa_cons ha pa_nil hs) hs)
  rcases items_some h with h | h
  · obtain ⟨y, hy, hz⟩ := op1_some h
    obtain ⟨n, rfl, e2, b1, b2⟩ := rng1_some hz
    cases e2
    refine ⟨B, ρ, _, dm, re, hy, fun v H1 e1 r => ?_⟩
    cases r
    refine ⟨n, rfl, b1, b2, q _ _ e1 fun B' => ?_⟩
    have := wk_rng (K := X.K) (B := B') (H := H1) (lo := 0) (hi := n)
    rw [Int.sub_zero] at this
    exact this
  · obtain ⟨y, hy, hz⟩ := op1_some h
    obtain ⟨n, rfl, e2, _⟩ := rng1_some hz
    cases e2
theorem dr_rng2 {tg a b : Expr} {x : Str} {p pos : Pos} {k : Env → Option D} (ex : x = "range") (hg : Gl X x) (hm : X.mg x = none) (ha : PE X a (eD X.K f)) (hb : PE X b (eD X.K k)) (hs : starEach [a, b] X.env = (false, eval a X.env) :: starEach [b] X.env)
    (hs2 : starEach [b] X.env = (false, eval b X.env) :: starEach [] X.env) : PI X tg (.Call (.Name x p) [a, b] [] pos) (eIR X.K fun ρ => itemsO (op2 rng2D (f ρ) (k ρ))) := by
  subst ex
  refine PI.imp (fun σ H R ⟨B, ρ, ds, dm, re, h, q⟩ => ?_) (pi_range2 hg hm (pa_cons ha (pa_cons hb pa_nil hs2) hs) (hs.trans (congrArg _ hs2)) hs2)
  rcases items_some h with h | h
  · obtain ⟨y, z, hy, hy2, hz⟩ := op2_some h
    obtain ⟨n, m, rfl, rfl, e2, b1, b2, b3, b4⟩ := rng2_some hz
    cases e2
    refine ⟨B, ρ, _, dm, re, hy, fun v H1 e1 r => ?_⟩
    cases r
    refine ⟨B, ρ, _, dm.mono e1, re.ex e1, hy2, fun u H2 e3 r2 => ?_⟩
    cases r2
    exact ⟨n, m, rfl, ⟨b1, b2, b3, b4⟩, q _ _ (e1.trans e3) fun B' => wk_rng⟩
  · obtain ⟨y, z, hy, hy2, hz⟩ := op2_some h
    obtain ⟨n, m, rfl, rfl, e2, _⟩ := rng2_some hz
    cases e2
/-! ### targets of statements -/
def TgS (K : PySem.W.Frag) (t : TG) (tg : List Nat) (pair : Bool) : Prop :=
  ∀ (B0 : Addr → Prop) (H0 H : Hp) (fp : Nat → List Addr) (st st' : State) (σ : L2.St) (d : D) (v : V) (Q : L2.St → Hp → Prop), SR K B0 H0 fp st σ H → Rp K (Bf B0 fp) H d v → bindS st tg pair d = some st' →
    (∀ σ' fp', SR K B0 H0 fp' st' σ' H → Q σ' H) → t v σ H Q
theorem tgs_name {K : PySem.W.Frag} (j : Nat) : TgS K (gName j) [j] false := by
  intro B0 H0 H fp st st' σ d v Q sr r h q
  simp only [bindS] at h
  split at h
  · rename_i hj
    cases h
    obtain ⟨fp1, sr1, _⟩ := sr.val hj r
    exact q _ fp1 sr1
  · cases h
theorem tgs_tup {K : PySem.W.Frag} (tg : List Nat) : TgS K (gTup K tg.length (gsOf tg)) tg true := by
  intro B0 H0 H fp st st' σ d v Q sr r h q
  cases d <;> first | (simp [bindS] at h; done) | skip
  rename_i ds
  cases r with
  | @tup a vs _ h1 n1 r1 =>
    have h' : setAllS st tg ds = some st' := h
    exact ⟨a, vs, rfl, .of h1, by rw [← r1.length]; exact (setAllS_len h').symm, setAllS_ok tg sr r1 h' fun σ' fp' r' _ => q σ' fp' r'⟩
theorem onS_some {o : Option State} {g : State → Option Rs} {r : Rs} (h : onS o g = some r) : ∃ st, o = some st ∧ g st = some r := by
  unfold onS at h
  split at h
  · exact ⟨_, rfl, h⟩
  · cases h
theorem forL_cons {F : D → State → Option Rs} {d : D} {ds : List D} {st : State} {r : Rs} (h : forL F (d :: ds) st = some r) : (∃ st', F d st = some (.nx st') ∧ forL F ds st' = some r) ∨ ∃ x, F d st = some (.rt x) ∧ r = .rt x := by
  simp only [forL] at h
  split at h
  · exact .inl ⟨_, by assumption, h⟩
  · cases h
    exact .inr ⟨_, by assumption, rfl⟩
  · cases h
/-- the loop, its iterator made -/
theorem for_run {K : PySem.W.Frag} {B0 : Addr → Prop} {H0 H H1 : Hp} {fp : Nat → List Addr} {st : State} {σ : L2.St} {E : Ends} {r : Rs} {J : It} {items : List D} {tg : List Nat} {pair : Bool} {t : TG} (dm : Dom B0 H0) (sr : SR K B0 H0 fp st σ H) (e1 : Ex H H1)
    (wk : WkD K (Bf B0 fp) J H1 items) (htg : TgS K t tg pair) (h : forL (fun d st => onS (bindS st tg pair d) g) items st = some r) (p : Post K B0 H0 E r) :
    ∃ W : Nat → Nat → L2.St → Hp → Prop, (∃ m, W 0 m σ H1) ∧ ∀ i m σ H, W i m σ H →
      (J.stop i H ∧ E.nx σ H) ∨ (J.go i H ∧ ∃ N : L2.St → Hp → Prop, (∀ σ' H', N σ' H' → ∃ m', m' < m ∧ W (i + 1) m' σ' H') ∧ ∀ x H', J.yld i H x H' → t x σ H' fun σ2 H2 => tS K g { E with nx := N, ct := N, bk := E.nx } σ2 H2) := by
  have sr1 := sr.step e1
  obtain ⟨Hf, eHf, srf, hn, hB⟩ := sr1.loop
  have dmf : Dom B0 Hf := dm.mono eHf
  refine for_it wk (fun i σ H => ∃ st', SRel K B0 Hf st' σ H ∧ forL (fun d st => onS (bindS st tg pair d) g) (items.drop i) st' = some r) ⟨st, ⟨fp, srf⟩, h⟩ (fun i σ H _ ⟨st', ⟨fp', sr'⟩, _⟩ => hB H sr'.ex) (fun i x σ H H' hi ⟨st', ⟨fp', sr'⟩, hr⟩ hy => ?_) (fun σ H ⟨st', ⟨fp', sr'⟩, hr⟩ => ?_)
  · have hd : items.drop i = items[i] :: items.drop (i + 1) := List.drop_eq_getElem_cons hi
    rw [hd] at hr
    have hb' : ∀ a, Bf B0 fp' a → Bf B0 fp a ∨ H1 a = none := fun a z => by
      rcases z with z | ⟨k, z⟩
      · exact .inl (.inl z)
      · exact hn a (sr'.nw k a z).1
    have rx := hy.2 _ (List.getElem?_eq_getElem hi) (Bf B0 fp') hb' (sr'.dom dmf)
    have sr2 := sr'.step hy.1
    have run : ∀ (st1 : State) (r1 : Rs), onS (bindS st' tg pair items[i]) g = some r1 → (∀ D' : Ends, D'.rt = E.rt → (∀ σ' H', (∀ st1, r1 = .nx st1 → SRel K B0 Hf st1 σ' H' → D'.nx σ' H')) → (∀ d, r1 = .rt d → Post K B0 Hf D' (.rt d)) → t x σ H' fun σ2 H2 => tS K g D' σ2 H2) := by
      intro _ r1 h1 D' hD hnx hrt
      obtain ⟨st2, hb, hg⟩ := onS_some h1
      refine htg B0 Hf H' fp' st' st2 σ _ x _ sr2 rx hb fun σ' fp2 sr3 => ⟨B0, Hf, st2, r1, dmf, ⟨fp2, sr3⟩, hg, ?_⟩
      cases r1 with
      | nx st1 => exact fun σ4 H4 s4 => hnx σ4 H4 st1 rfl s4
      | rt d => exact hrt d rfl
    rcases forL_cons hr with ⟨st2, h1, h2⟩ | ⟨d, h1, h2⟩
    · exact run st2 _ h1 _ rfl (fun σ4 H4 st1 es s4 => by
        cases es
        exact ⟨st2, s4, h2⟩) (fun d z => nomatch z)
    · subst h2
      exact run st' _ h1 _ rfl (fun σ4 H4 st1 z => nomatch z) fun d' z => by
        cases z
        exact fun v H4 e4 rv => p v H4 (eHf.trans e4) rv
  · rw [List.drop_length] at hr
    cases hr
    exact p σ H ⟨fp', sr'.weakH eHf⟩
theorem onL_some {o : Option (List D)} {g : List D → Option Rs} {r : Rs} (h : onL o g = some r) : ∃ ds, o = some ds ∧ g ds = some r := by
  unfold onL at h
  split at h
  · exact ⟨_, rfl, h⟩
  · cases h
theorem ds_for {tge iter : Expr} {body : List Stmt} {pos : Pos} {tg : List Nat} {pair : Bool} {t : TG} {fi : Env → Option (List D)} (hxe : X.xe = fun _ _ => False) (hc : X.calm = true) (hi : PI X tge iter (eI X.K fi)) (hg : PG X tge t) (htg : TgS X.K t tg pair) (hb : PSs X body (tS X.K g))
    (hs : ∀ x, foldedSetIterable iter X.env x = pure x) : PS X (.For tge iter body [] pos) (tS X.K fun st => onL (fi (frzE st)) fun ds => forL (fun d st => onS (bindS st tg pair d) g) ds st) :=
  PS.imp (fun D σ H ⟨B0, H0, st, r, dm, ⟨fp, sr⟩, h, p⟩ => by
    obtain ⟨ds, h1, h2⟩ := onL_some h
    exact ⟨Bf B0 fp, frzE st, ds, sr.dom dm, sr.envF, h1, fun J H1 e1 wk => for_run dm sr e1 wk htg h2 p⟩) (ps_for (by rw [hxe]; exact PassesOwn.never) hc hi hg hb hs)
theorem ds_forR {tge iter : Expr} {body : List Stmt} {pos : Pos} {tg : List Nat} {pair : Bool} {t : TG} {fi : Env → Option (List D)} (hxe : X.xe = fun _ _ => False) (hc : X.calm = true) (hi : PI X tge iter (eIR X.K fi)) (hg : PG X tge t) (htg : TgS X.K t tg pair) (hb : PSs X body (tS X.K g))
    (hs : ∀ x, foldedSetIterable iter X.env x = pure x) : PS X (.For tge iter body [] pos) (tS X.K fun st => onL (fi (snapE st)) fun ds => forL (fun d st => onS (bindS st tg pair d) g) ds st) :=
  PS.imp (fun D σ H ⟨B0, H0, st, r, dm, ⟨fp, sr⟩, h, p⟩ => by
    obtain ⟨ds, h1, h2⟩ := onL_some h
    exact ⟨B0, snapE st, ds, sr.domB dm, sr.env0 dm, h1, fun J H1 e1 wk => for_run dm sr e1 (wk _) htg h2 p⟩) (ps_for (by rw [hxe]; exact PassesOwn.never) hc hi hg hb hs)
/-! ### x = [..] -/
/-- a comprehension at a plain local name of its line -/
theorem ds_setLc {k : Kd} {i : Nat} {y : Str} {py pos spos : Pos} {elt tg iter : Expr} {ifs : List Expr} {scope : Scope} {own : List (Str × Nat)} {gt : TG} {tgs : List Nat} {pair : Bool} {fi : Env → Option (List D)} {ft fk : Env → Option D} (hk : k ≠ .dic)
    (hc : X.calm = true) (hN : X.N.Nodup) (hy : X.N[i]? = some y) (hyl : X.env.scope.names.lookup y = some .local)
    (hsw : swapsWith (.ListComp elt [⟨tg, iter, ifs, 0⟩] scope pos) (some (.Name y py)) spos.line X.env = pure true) (hi : PI X tg iter (eI X.K fi)) (ok : BlkOk X.N X.env.scope scope own)
    (hgd : TgD X.K gt tgs pair) (hsub : ∀ i ∈ tgs, i ∈ own.map (·.2))
    (hg : ∀ (s : Shared) (H : Hp) (C : Addr) (cl : List (Str × Addr)) (fp : List Addr), PG (X.blk s H scope (compEnvC scope cl C X.env) fp) tg gt)
    (ht : ∀ (s : Shared) (H : Hp) (C : Addr) (cl : List (Str × Addr)) (fp : List Addr), PTs (X.blk s H scope (compEnvC scope cl C X.env) fp) ifs (eT X.K ft))
    (he : ∀ (s : Shared) (H : Hp) (C : Addr) (cl : List (Str × Addr)) (fp : List Addr), PE (X.blk s H scope (compEnvC scope cl C X.env) fp) elt (eD X.K fk)) (hs : ∀ x, foldedSetIterable iter X.env x = pure x) :
    PS X (.Assign [.Name y py] (.ListComp elt [⟨tg, iter, ifs, 0⟩] scope pos) spos) (tS X.K fun st => setS st i (evKf k (fun ρ => capL (onI (capI (fi ρ)) (compL fun d => onE (bindT (wipeE ρ (own.map (·.2))) tgs pair d) fun ρ' => testD (ft ρ') (fk ρ')))) st)) :=
  PS.imp (fun D σ H h => by
    have h' := ds_own_run D σ H h
    have l := lc_imp (X := X) (f := fi) (t := ft) (k := fk) hgd hsub σ H
    cases k with
    | val => exact l _ (eF_of (fun _ _ h => capL_lst h) σ H _ h')
    | lst => exact l _ h'
    | dic => exact absurd rfl hk) (ps_setLc hc hN hy hyl hsw hi ok hg ht he hs)
theorem ds_setLc2 {i : Nat} {y : Str} {py pos spos : Pos} {elt tg iter tg1 iter1 : Expr} {ifs1 : List Expr} {scope : Scope} {own : List (Str × Nat)} {j j1 : Nat} {fi fi1 : Env → Option (List D)} {ft fk : Env → Option D}
    (hc : X.calm = true) (hN : X.N.Nodup) (hy : X.N[i]? = some y) (hyl : X.env.scope.names.lookup y = some .local)
    (hsw : swapsWith (.ListComp elt [⟨tg, iter, [], 0⟩, ⟨tg1, iter1, ifs1, 0⟩] scope pos) (some (.Name y py)) spos.line X.env = pure true) (hi : PI X tg iter (eI X.K fi)) (ok : BlkOk X.N X.env.scope scope own)
    (hj : j ∈ own.map (·.2)) (hj1 : j1 ∈ own.map (·.2))
    (hg : ∀ (s : Shared) (H : Hp) (C : Addr) (cl : List (Str × Addr)) (fp : List Addr), PG (X.blk s H scope (compEnvC scope cl C X.env) fp) tg (gName j))
    (hi1 : ∀ (s : Shared) (H : Hp) (C : Addr) (cl : List (Str × Addr)) (fp : List Addr), PI (X.blk s H scope (compEnvC scope cl C X.env) fp) tg1 iter1 (eI X.K fi1))
    (hg1 : ∀ (s : Shared) (H : Hp) (C : Addr) (cl : List (Str × Addr)) (fp : List Addr), PG (X.blk s H scope (compEnvC scope cl C X.env) fp) tg1 (gName j1))
    (ht1 : ∀ (s : Shared) (H : Hp) (C : Addr) (cl : List (Str × Addr)) (fp : List Addr), PTs (X.blk s H scope (compEnvC scope cl C X.env) fp) ifs1 (eT X.K ft))
    (he : ∀ (s : Shared) (H : Hp) (C : Addr) (cl : List (Str × Addr)) (fp : List Addr), PE (X.blk s H scope (compEnvC scope cl C X.env) fp) elt (eD X.K fk))
    (hs : ∀ x, foldedSetIterable iter X.env x = pure x) (hs1 : ∀ env x, foldedSetIterable iter1 env x = pure x) :
    PS X (.Assign [.Name y py] (.ListComp elt [⟨tg, iter, [], 0⟩, ⟨tg1, iter1, ifs1, 0⟩] scope pos) spos) (tS X.K fun st => setS st i (evKf .val (fun ρ => capL (onI (capI (fi ρ)) (compL2 fun d => onI (capI (fi1 ((wipeE ρ (own.map (·.2))).set j (some d)))) (compL fun d1 =>
      testD (ft ((wipeE ((wipeE ρ (own.map (·.2))).set j (some d)) [j1]).set j1 (some d1))) (fk ((wipeE ((wipeE ρ (own.map (·.2))).set j (some d)) [j1]).set j1 (some d1))))))) st)) :=
  PS.imp (fun D σ H h => by
    have h' := ds_own_run (k := .val) D σ H h
    exact lc2_imp (X := X) (f := fi) (t := ft) (k := fk) hj hj1 σ H _ h') (ps_setLc2 (vs1 := [j1]) hc hN hy hyl hsw hi ok (fun i hi => List.mem_singleton.mp hi ▸ hj1) hg (fun s H C cl fp => pts_nil) hi1 hg1 ht1 he hs hs1)
/-! ### rows -/
def upR (B : Addr → Prop) (p : Addr) (qs : List Addr) : Addr → Prop := fun a => B a ∨ a = p ∨ a ∈ qs
theorem RowsOk.chg {K : PySem.W.Frag} {B B' : Addr → Prop} {H H' : Hp} (r : ∀ {ds : List D} {vs : List V}, RpL K B H ds vs → RpL K B' H' ds vs) : ∀ {dss : List (List D)} {qs : List Addr}, (∀ q o, q ∈ qs → H q = some o → H' q = some o) → RowsOk K B H dss qs → RowsOk K B' H' dss qs
  | [], [], _, _ => trivial
  | _ :: _, q :: _, e, ⟨⟨vs, h1, h2⟩, t⟩ => ⟨⟨vs, e _ _ List.mem_cons_self h1, r h2⟩, RowsOk.chg r (fun q o hq => e q o (List.mem_cons_of_mem _ hq)) t⟩
  | [], _ :: _, _, h => h.elim
  | _ :: _, [], _, h => h.elim
theorem RowsOk.snoc {K : PySem.W.Frag} {B : Addr → Prop} {H : Hp} {ds : List D} {q : Addr} {vs : List V} (h1 : H q = some (.lst vs)) (h2 : RpL K B H ds vs) : ∀ {dss : List (List D)} {qs : List Addr}, RowsOk K B H dss qs → RowsOk K B H (dss ++ [ds]) (qs ++ [q])
  | [], [], _ => ⟨⟨vs, h1, h2⟩, trivial⟩
  | _ :: _, _ :: _, ⟨a, t⟩ => ⟨a, RowsOk.snoc h1 h2 t⟩
  | [], _ :: _, h => h.elim
  | _ :: _, [], h => h.elim
theorem RowsOk.there {K : PySem.W.Frag} {B : Addr → Prop} {H : Hp} : ∀ {dss : List (List D)} {qs : List Addr}, RowsOk K B H dss qs → ∀ q, q ∈ qs → ∃ o, H q = some o
  | [], [], _, q, hq => nomatch hq
  | _ :: _, _ :: _, ⟨⟨_, h1, _⟩, t⟩, q, hq => by
    rcases List.mem_cons.mp hq with z | z
    · exact ⟨_, z ▸ h1⟩
    · exact RowsOk.there t q z
  | [], _ :: _, h, _, _ => h.elim
  | _ :: _, [], h, _, _ => h.elim
theorem rowsD_get : ∀ {ds : List D} {dss : List (List D)}, rowsD ds = some dss → dss.length = ds.length ∧ ∀ (i : Nat) d, ds[i]? = some d → ∃ r, seqD d = some r ∧ dss[i]? = some r
  | [], _, h => by
    cases h
    exact ⟨rfl, fun i d h => by simp at h⟩
  | d :: ds, dss, h => by
    simp only [rowsD] at h
    split at h
    · rename_i r rest h1 h2
      cases h
      obtain ⟨l, q⟩ := rowsD_get h2
      refine ⟨congrArg (· + 1) l, fun i d' h => ?_⟩
      cases i with
      | zero =>
        cases h
        exact ⟨r, h1, rfl⟩
      | succ i => exact q i d' h
    · cases h
/-- [list(r) for r in e] -/
def tRows (K : PySem.W.Frag) (fi : Env → Option (List D)) : TE := fun σ H Q => ∃ B ρ items dss, Dom B H ∧ RpE K B H ρ σ ∧ fi ρ = some items ∧ items.length ≤ 4096 ∧ rowsD items = some dss ∧
  ∀ p qs H1 H', Ex H H1 → Ex H1 H' → H1 p = none → (∀ q, q ∈ qs → H1 q = none ∧ q ≠ p) → qs.Nodup → H' p = some (.lst (qs.map V.ref)) → RowsOk K (upR B p qs) H' dss qs → Q (.ref p) H'
theorem seqD_rp {K : PySem.W.Frag} {B : Addr → Prop} {H : Hp} {d : D} {r : List D} {x : V} (h : seqD d = some r) (rx : Rp K B H d x) : ∃ (pa : Addr) (us : List V), x = .ref pa ∧ (SqL K H pa us ∨ SqT K H pa us) ∧ RpL K B H r us := by
  unfold seqD at h
  split at h
  · cases h
    cases rx with
    | @lst a us _ g1 g2 g3 => exact ⟨a, us, rfl, .inl (.of g1), g3⟩
  · cases h
    cases rx with
    | @tup a us _ g1 g2 g3 => exact ⟨a, us, rfl, .inr (.of g1), g3⟩
  · cases h
theorem rows_imp {X : Cx} {vs : List Nat} {j : Nat} {fi : Env → Option (List D)} (hj : j ∈ vs) : ∀ σ H Q, j < σ.length → tRows X.K fi σ H Q → tLc (eI X.K fi) (gName j) tYes (tCB (rToL X.K) (tCons (tVar j) tNil)) vs σ H Q := by
  intro σ H Q hjl ⟨B, ρ, items, dss, dm, re, h1, h2, h3, q⟩
  obtain ⟨hl, hget⟩ := rowsD_get h3
  refine ⟨B, ρ, items, dm, re, h1, fun J H1 e1 wk Dl nD => ?_⟩
  have dm1 := dm.mono e1
  refine lc_it wk (fun i H' => Ex H1 H' ∧ ∃ qs : List Addr, H' Dl = some (.lst (qs.map V.ref)) ∧ qs.length = i ∧ (∀ q, q ∈ qs → H1 q = none ∧ q ≠ Dl) ∧ qs.Nodup ∧ RowsOk X.K (upR B Dl qs) H' (dss.take i) qs) ?_ (fun i H' _ m => m.1.toB) (fun i x H' H'' hi ⟨ex, qs, hD, hqi, hfr, hnd, hrows⟩ hy => ?_) (fun H' ⟨ex, qs, hD, hqi, hfr, hnd, hrows⟩ => ?_)
  · exact ⟨Ex.new nD, [], upd_same, rfl, (fun q hq => nomatch hq), List.nodup_nil, trivial⟩
  · have rx := hy.2 _ (List.getElem?_eq_getElem hi) (upR B Dl qs) (fun a z => by
      rcases z with z | z | z
      · exact .inl z
      · exact .inr (z ▸ nD)
      · exact .inr (hfr a z).1) (fun a z => by
      rcases z with z | z | z
      · obtain ⟨o, ho⟩ := dm1 a z
        exact ⟨o, ex _ _ ho⟩
      · exact ⟨_, z ▸ hD⟩
      · exact hrows.there a z)
    obtain ⟨r, hr1, hr2⟩ := hget i _ (List.getElem?_eq_getElem hi)
    refine ⟨(wipe_set_mem _ hj).trans (wipe_wipe_sub σ fun _ z => z), ?_⟩
    have hget2 : ((wipe σ vs).set j (some x))[j]? = some (some x) := by
      rw [get_set, if_pos rfl, if_pos (by rw [wipe_length]; exact hjl)]
    have ex2 := ex.trans hy.1
    have hD2 := hy.1 _ _ hD
    obtain ⟨pa, us, ex', hsq, rl⟩ := seqD_rp hr1 rx
    refine iteT (B := Ex H1 H'' ∧ ∃ qs : List Addr, H'' Dl = some (.lst (qs.map V.ref)) ∧ qs.length = i + 1 ∧ (∀ q, q ∈ qs → H1 q = none ∧ q ≠ Dl) ∧ qs.Nodup ∧ RowsOk X.K (upR B Dl qs) H'' (dss.take (i + 1)) qs) ?_
    refine ⟨x, hget2, pa, us, by rw [ex'], hsq, fun l nl => ?_⟩
    have hlD : l ≠ Dl := fun z => by
      rw [z, hD2] at nl
      cases nl
    refine ⟨qs.map V.ref, by rw [upd_ne (Ne.symm hlD)]; exact hD2, ?_, (ex2.trans (Ex.new nl)).mut nD, qs ++ [l], ?_, ?_, ?_, ?_, ?_⟩
    · rw [List.length_map, hqi]
      exact lim_lt (by unfold lim; omega)
    · rw [upd_same, List.map_append]
      rfl
    · rw [List.length_append, hqi]
      rfl
    · intro q hq
      rcases List.mem_append.mp hq with z | z
      · exact hfr q z
      · rw [List.mem_singleton.mp z]
        exact ⟨ex2.fresh nl, hlD⟩
    · refine List.nodup_append.mpr ⟨hnd, List.nodup_cons.mpr ⟨(fun z => nomatch z), List.nodup_nil⟩, fun a ha b hb hab => ?_⟩
      rw [List.mem_singleton.mp hb] at hab
      subst hab
      obtain ⟨o, ho⟩ := hrows.there _ ha
      rw [hy.1 _ _ ho] at nl
      cases nl
    · have hr3 : dss.take (i + 1) = dss.take i ++ [r] := by
        rw [List.take_add_one, hr2]
        rfl
      rw [hr3]
      have hsub : ∀ a, upR B Dl (qs ++ [l]) a → upR B Dl qs a ∨ H'' a = none := fun a z => by
        rcases z with z | z | z
        · exact .inl (.inl z)
        · exact .inl (.inr (.inl z))
        · rcases List.mem_append.mp z with z | z
          · exact .inl (.inr (.inr z))
          · exact .inr (List.mem_singleton.mp z ▸ nl)
      have st1 : ∀ {ds : List D} {vs : List V}, RpL X.K (upR B Dl qs) H'' ds vs → RpL X.K (upR B Dl (qs ++ [l])) (upd (upd H'' l (.lst us)) Dl (.lst (qs.map V.ref ++ [.ref l]))) ds vs := fun z =>
        (z.mono (B' := upR B Dl (qs ++ [l])) (Ex.new nl).toB hsub).mono (ExB.upd (.inr (.inl rfl))) fun a z => .inl z
      refine RowsOk.snoc (vs := us) (by rw [upd_ne hlD, upd_same]) (st1 rl) (hrows.chg (fun z => st1 (z.ex hy.1)) fun q o hq ho => ?_)
      rw [upd_ne (hfr q hq).2]
      exact (Ex.new nl) _ _ (hy.1 _ _ ho)
  · have hlen : dss.take items.length = dss := by rw [← hl]; exact List.take_length
    rw [hlen] at hrows
    exact q Dl qs H1 H' e1 ex nD hfr hnd hD hrows
theorem SR.newR {K : PySem.W.Frag} {B0 : Addr → Prop} {H0 H H1 H' : Hp} {fp : Nat → List Addr} {st : State} {σ : L2.St} (r : SR K B0 H0 fp st σ H) {i : Nat} (hi : i < st.length) {p : Addr} {qs : List Addr} {dss : List (List D)} (e : Ex H H1) (e1 : Ex H1 H') (np : H1 p = none) (nq : ∀ q, q ∈ qs → H1 q = none ∧ q ≠ p) (nd : qs.Nodup)
    (hp : H' p = some (.lst (qs.map V.ref))) (h : RowsOk K (upR (Bf B0 fp) p qs) H' dss qs) : SRel K B0 H0 (st.set i (.rows dss)) (σ.set i (some (.ref p))) H' := by
  have fr : ∀ q, q ∈ p :: qs → H1 q = none := fun q hq => by
    rcases List.mem_cons.mp hq with z | z
    · exact z ▸ np
    · exact (nq q z).1
  have sub := Bf_sub (B0 := B0) (fp := fp) (H := H) (i := i) (f := p :: qs) fun q hq => .inr (e.fresh (fr q hq))
  have e2 := e.trans e1
  refine ⟨_, r.put hi (r.ex.trans e2) (fun k s' o' _ h => h.ex e2 sub) (fun q hq => ⟨r.ex.fresh (e.fresh (fr q hq)), ?_, fun k _ => r.fresh_ne (e.fresh (fr q hq)) k⟩) (List.nodup_cons.mpr ⟨(fun z => (nq p z).2 rfl), nd⟩) (fun k q _ hq => ?_) ⟨p, qs, rfl, rfl, hp, h.chg (fun z => z.mono (ExB.refl H') fun a z => .inl ?_) fun _ _ _ z => z⟩⟩
  · rcases List.mem_cons.mp hq with z | z
    · exact ⟨_, z ▸ hp⟩
    · exact h.there q z
  · obtain ⟨_, o, z⟩ := r.nw k q hq
    exact ⟨o, e2 _ _ z⟩
  · rcases z with z | ⟨k, z⟩
    · exact .inl (.inl z)
    · by_cases c : k = i
      · rw [c, fset_same] at z
        rcases List.mem_cons.mp z with z | z
        · exact .inr (.inl z)
        · exact .inr (.inr z)
      · rw [fset_ne c] at z
        exact .inl (.inr ⟨k, z⟩)
def rowsK (o : Option (List D)) : Option Slot := match o with
  | some ds => if ds.length ≤ 4096 then (match rowsD ds with
    | some dss => some (.rows dss)
    | none => none) else none
  | none => none
theorem rowsK_some {o : Option (List D)} {s : Slot} (h : rowsK o = some s) : ∃ ds dss, o = some ds ∧ ds.length ≤ 4096 ∧ rowsD ds = some dss ∧ s = .rows dss := by
  unfold rowsK at h
  split at h
  · split at h
    · split at h
      · cases h
        exact ⟨_, _, rfl, by assumption, by assumption, rfl⟩
      · cases h
    · cases h
  · cases h
/-- y = [list(r) for r in e] -/
theorem ds_ownR {i j : Nat} {y : Str} {py pos spos : Pos} {elt tg iter : Expr} {scope : Scope} {own : List (Str × Nat)} {fi : Env → Option (List D)} (hj : j ∈ own.map (·.2))
    (hc : X.calm = true) (hN : X.N.Nodup) (hy : X.N[i]? = some y) (hyl : X.env.scope.names.lookup y = some .local) (hlt : j < X.N.length)
    (hsw : swapsWith (.ListComp elt [⟨tg, iter, [], 0⟩] scope pos) (some (.Name y py)) spos.line X.env = pure true) (hi : PI X tg iter (eI X.K fi)) (ok : BlkOk X.N X.env.scope scope own)
    (hg : ∀ (s : Shared) (H : Hp) (C : Addr) (cl : List (Str × Addr)) (fp : List Addr), PG (X.blk s H scope (compEnvC scope cl C X.env) fp) tg (gName j))
    (he : ∀ (s : Shared) (H : Hp) (C : Addr) (cl : List (Str × Addr)) (fp : List Addr), PE (X.blk s H scope (compEnvC scope cl C X.env) fp) elt (tCB (rToL X.K) (tCons (tVar j) tNil))) (hs : ∀ x, foldedSetIterable iter X.env x = pure x) :
    PS X (.Assign [.Name y py] (.ListComp elt [⟨tg, iter, [], 0⟩] scope pos) spos) (tS X.K fun st => if j < st.length then setS st i (rowsK (fi (frzE st))) else none) :=
  PS.imp (fun D σ H ⟨B0, H0, st, r, dm, ⟨fp, sr⟩, h, p⟩ => by
    dsimp only at h
    split at h
    · rename_i hjl
      obtain ⟨sl, h1, hi, rfl⟩ := setS_some h
      obtain ⟨ds, dss, h2, h3, h4, rfl⟩ := rowsK_some h1
      refine rows_imp (X := X) hj σ H _ (by rw [← sr.len]; exact hjl) ⟨Bf B0 fp, frzE st, ds, dss, sr.dom dm, sr.envF, h2, h3, h4, fun q qs H1 H' e e1 np nq nd hp hr => ?_⟩
      exact p _ H' (sr.newR hi e e1 np nq nd hp hr)
    · cases h) (ps_setLc hc hN hy hyl hsw hi ok hg (fun _ _ _ _ _ => pts_nil) he hs)
theorem rows_at {K : PySem.W.Frag} {B : Addr → Prop} {H : Hp} : ∀ {dss : List (List D)} {qs : List Addr} {j : Nat} {ds : List D}, RowsOk K B H dss qs → dss[j]? = some ds → ∃ q vs, qs[j]? = some q ∧ H q = some (.lst vs) ∧ RpL K B H ds vs
  | [], _, j, ds, _, h => by simp at h
  | d :: dss, [], j, ds, h, _ => h.elim
  | d :: dss, q :: qs, j, ds, ⟨⟨vs, h1, h2⟩, t⟩, h => by
    cases j with
    | zero =>
      cases h
      exact ⟨q, vs, rfl, h1, h2⟩
    | succ j => exact rows_at t (j := j) h
theorem RowsOk.len {K : PySem.W.Frag} {B : Addr → Prop} {H : Hp} : ∀ {dss : List (List D)} {qs : List Addr}, RowsOk K B H dss qs → qs.length = dss.length
  | [], [], _ => rfl
  | d :: dss, [], h => h.elim
  | [], _ :: _, h => h.elim
  | d :: dss, q :: qs, ⟨_, t⟩ => congrArg (· + 1) (RowsOk.len t)
theorem RowsOk.set {K : PySem.W.Frag} {B : Addr → Prop} {H H' : Hp} {q0 : Addr} (r : ∀ {ds : List D} {vs : List V}, RpL K B H ds vs → RpL K B H' ds vs) (e : ∀ q o, q ≠ q0 → H q = some o → H' q = some o) {ds' : List D} {vs' : List V} (h1 : H' q0 = some (.lst vs')) (h2 : RpL K B H' ds' vs') :
    ∀ {dss : List (List D)} {qs : List Addr} {j : Nat}, qs.Nodup → RowsOk K B H dss qs → qs[j]? = some q0 → RowsOk K B H' (dss.set j ds') qs
  | [], [], j, _, _, h => by simp at h
  | d :: dss, [], j, _, h, _ => h.elim
  | [], _ :: _, _, _, h, _ => h.elim
  | d :: dss, q :: qs, j, nd, ⟨⟨vs, g1, g2⟩, t⟩, h => by
    obtain ⟨n1, n2⟩ := List.nodup_cons.mp nd
    cases j with
    | zero =>
      cases h
      exact ⟨⟨vs', h1, h2⟩, t.chg r fun q' o hq hh => e q' o (fun z => n1 (z ▸ hq)) hh⟩
    | succ j =>
      refine ⟨⟨vs, e _ _ (fun z => n1 ?_) g1, r g2⟩, RowsOk.set r e h1 h2 n2 t h⟩
      rw [z]
      exact List.mem_of_getElem? h
/-- x[k][k2] = e, rows -/
theorem ds_setR {i : Nat} {x : Str} {k k2 : Expr} {px p2 p3 pos : Pos} {fk fk2 : Env → Option D} (hN : X.N[i]? = some x) (hv : Vis X.env.scope x) (hd : (x == ("__debug__" : Str)) = false) (hcd : (x == ("__classdict__" : Str)) = false) (hk : PE X k (eD X.K fk)) (hk2 : PE X k2 (eD X.K fk2)) (he : PE X e (eD X.K f)) (hks : PlainIx k) (hks2 : noSlice k2 = true)
    (hs : swapsWithSole [.Subscript (.Subscript (.Name x px) k p2) k2 p3] e pos.line X.env = pure false) (hw : swappedStores [.Subscript (.Subscript (.Name x px) k p2) k2 p3] e X.env = pure none) :
    PS X (.Assign [.Subscript (.Subscript (.Name x px) k p2) k2 p3] e pos) (tS X.K fun st => setRS st i (fk (snapE st)) (fk2 (snapE st)) (retain f st)) :=
  PS.imp (fun D σ H ⟨B0, H0, st, r, dm, ⟨fp, sr⟩, h, p⟩ => by
    unfold setRS at h
    dsimp only at h
    split at h
    · rename_i dss n n2 d h1 h2 h3 h4
      split at h
      · rename_i j h5
        split at h
        · rename_i ds h6
          split at h
          · rename_i j2 h7
            cases h
            obtain ⟨o, ho, sl⟩ := sr.get h1
            obtain ⟨pa, qs, rfl, hf, hp, hr⟩ := sl
            obtain ⟨q, vs, g1, g2, g3⟩ := rows_at hr h6
            refine run_ret (B := Bf B0 fp) sr dm (Ex.refl H) (sr.dom dm) sr.mut (fun _ z => .inl z) h4 fun v H1 e1 rv => ⟨.ref pa, ho, run_snap sr dm e1 h2 fun u H2 e2 rk => ?_⟩
            cases rk
            have e12 := e1.trans e2
            refine ⟨pa, qs.map V.ref, n, .ref q, rfl, rfl, .of (e12 _ _ hp), ?_, run_snap sr dm e12 h3 fun u H3 e3 rk => ?_⟩
            · unfold atI
              rw [List.length_map, hr.len, h5]
              show (qs.map V.ref)[j]? = _
              rw [List.getElem?_map, g1]
              rfl
            cases rk
            have e13 := e12.trans e3
            refine ⟨q, vs, n2, j2, rfl, rfl, e13 _ _ g2, by rw [← g3.length]; exact h7, p _ _ ?_⟩
            have hq : q ∈ fp i := by rw [hf]; exact List.mem_cons_of_mem _ (List.mem_of_getElem? g1)
            refine (sr.step e13).write (p := q) h1 hq fun o' ho' sl' => ?_
            rw [ho] at ho'
            cases ho'
            have nd := sr.nd i
            rw [hf] at nd
            obtain ⟨n1, n2'⟩ := List.nodup_cons.mp nd
            have rr : ∀ {ds : List DL.D} {vs' : List V}, RpL X.K (Bf B0 fp) H3 ds vs' → RpL X.K (Bf B0 fp) (upd H3 q (.lst (vs.set j2 v))) ds vs' := fun z => z.mono (ExB.upd (.inr ⟨i, hq⟩)) fun a z => .inl z
            refine ⟨pa, qs, rfl, hf, ?_, RowsOk.set (q0 := q) rr (fun q' o hq' hh => by rw [upd_ne hq']; exact hh) upd_same ?_ n2' (hr.chg (fun z => z.ex e13) fun q' o _ hh => e13 _ _ hh) g1⟩
            · rw [upd_ne (fun z : pa = q => n1 (by rw [z]; exact List.mem_of_getElem? g1))]
              exact e13 _ _ hp
            · exact rr (set_rp (g3.ex e13) ((rv.ex e2).ex e3) j2)
          · cases h
        · cases h
      · cases h
    · cases h) (ps_asg he (pg_sub (pe_ix ix_list (pe_var hN hv hd hcd) hk hks) hk2 set_list (fun v => by cases k2 <;> first | rfl | (cases hks2; done))) hs hw (by rfl))
end
end DL
/-! DL12: the checker for statements, and that it is sound. -/
namespace DL
open PySem PySem.Spec PyProof.Rows L2
/-! ### the text's conditions -/
def noComp : Expr → Bool
  | .ListComp .. => false
  | .SetComp .. => false
  | .DictComp .. => false
  | _ => true
def noTup : Expr → Bool
  | .Tuple .. => false
  | _ => true
theorem swp_none {e : Expr} (h : noComp e = true) (t : Option Expr) (l : Nat) (env : PySem.Env) : swapsWith e t l env = pure false := by
  cases e <;> first | rfl | (cases h; done)
theorem swp_sub {e o i : Expr} {p : Pos} {l : Nat} {env : PySem.Env} : swapsWith e (some (.Subscript o i p)) l env = pure false := by
  cases e <;> rfl
theorem sws_tup {e : Expr} {es : List Expr} {k : Nat} {p : Pos} {l : Nat} {env : PySem.Env} : swapsWithSole [.Tuple es k p] e l env = pure false := by
  cases e <;> rfl
theorem sws_sub {e o i : Expr} {p : Pos} {l : Nat} {env : PySem.Env} : swapsWithSole [.Subscript o i p] e l env = pure false := by
  cases e <;> rfl
theorem swd_tup {e : Expr} {es : List Expr} {k : Nat} {p : Pos} {env : PySem.Env} (h : noTup e = true) : swappedStores [.Tuple es k p] e env = pure none := by
  cases e <;> first | rfl | (cases h; done)
theorem swd_sub {e o i : Expr} {p : Pos} {env : PySem.Env} : swappedStores [.Subscript o i p] e env = pure none := by
  cases e <;> rfl
theorem swd_par {env : PySem.Env} {x y : Str} {px py pt pt2 : Pos} {kt k2 : Nat} {a b : Expr} (hk : env.scope.kind = .function) (hx : env.scope.names.lookup x = some .local) (hy : env.scope.names.lookup y = some .local) (hl : (py.line == px.line) = true) (hxy : (y == x) = false)
    (na : noStar a = true) (nb : noStar b = true) (h1 : [a, b].all (foldedForSure 8) = false) (h2 : [a, b].all (constantsAlone 8) = false) : swappedStores [.Tuple [.Name x px, .Name y py] kt pt] (.Tuple [a, b] k2 pt2) env = pure (some [x, y]) := by
  have kx : env.kindOf x = some .local := hx
  have ky : env.kindOf y = some .local := hy
  have hb : env.blockKind = .function := by unfold Env.blockKind; rw [hk]; rfl
  have hs : (([a, b] : List Expr).any fun | .Starred .. => true | _ => false) = false := by
    cases a <;> first | (cases na; done) | skip
    all_goals cases b <;> first | (cases nb; done) | rfl
  have hd : ([x, y] : List Str).eraseDups = [x, y] := by
    rw [List.eraseDups_cons]
    simp [List.eraseDups_cons, hxy]
  have hl0 : (px.line == px.line) = true := by simp
  unfold swappedStores
  simp only [hs, h1, h2, hb, List.filterMap_cons, List.filterMap_nil, kx, ky, hl0, hl, List.head?_cons, Option.map_some, Option.getD_some, Expr.pos, List.length_cons, List.length_nil]
  simp [hd, hl0]
  intro h
  exfalso
  rcases h with h | h
  · cases a <;> first | (cases na; done) | (cases h; done)
  · cases b <;> first | (cases nb; done) | (cases h; done)
theorem swp_cell {env : PySem.Env} {elt : Expr} {gs : List Comprehension} {scope : Scope} {p px : Pos} {x : Str} {l : Nat} (hx : env.scope.names.lookup x = some .cell) : swapsWith (.ListComp elt gs scope p) (some (.Name x px)) l env = pure false := by
  have kx : env.kindOf x = some .cell := hx
  unfold swapsWith
  simp only [kx]
  cases (env.blockKind == ScopeKind.function) <;> rfl
theorem swd_cell {env : PySem.Env} {x y : Str} {px py pt pt2 : Pos} {kt k2 : Nat} {a b : Expr} (h : env.scope.names.lookup x = some .cell ∨ env.scope.names.lookup y = some .cell) : swappedStores [.Tuple [.Name x px, .Name y py] kt pt] (.Tuple [a, b] k2 pt2) env = pure none := by
  have key : ∀ (P : Expr → Option Str), (P (.Name x px) = none ∨ P (.Name y py) = none) → ((([Expr.Name x px, Expr.Name y py] : List Expr).filterMap P).length != 2) = true := by
    intro P hP
    simp only [List.filterMap_cons, List.filterMap_nil]
    cases h1 : P (.Name x px) with
    | none => cases h2 : P (.Name y py) <;> simp [h1, h2]
    | some u =>
      cases h2 : P (.Name y py) with
      | none => simp [h1, h2]
      | some v => simp [h1, h2] at hP
  unfold swappedStores
  simp only [List.length_cons, List.length_nil]
  split
  · rfl
  · split
    · rfl
    · rw [if_pos]
      rw [Bool.or_eq_true]
      left
      refine key _ ?_
      rcases h with h | h
      · left
        have kx : env.kindOf x = some .cell := h
        simp [kx]
      · right
        have ky : env.kindOf y = some .cell := h
        simp [ky]
/-- x, y = a, b through a tuple -/
theorem ds_parT {X : Cx} {a b : Expr} {ka kb : Kd} {i j : Nat} {x y : Str} {px py pt pos : Pos} {kt k2 : Nat} {pt2 : Pos} {fa fb : Env → Option D} (hc : X.calm = true) (hN : X.N.Nodup) (hi : X.N[i]? = some x) (hj : X.N[j]? = some y) (hx : Loc X.env.scope x) (hy : Loc X.env.scope y) (hfx : X.fn x = true ∨ X.env.scope.names.lookup x = some .local) (hfy : X.fn y = true ∨ X.env.scope.names.lookup y = some .local)
    (ha : PE X a (eK X.K ka fa)) (hb : PE X b (eK X.K kb fb)) (hs1 : starEach [a, b] X.env = (false, eval a X.env) :: starEach [b] X.env) (hs2 : starEach [b] X.env = (false, eval b X.env) :: starEach [] X.env)
    (hw : swappedStores [.Tuple [.Name x px, .Name y py] kt pt] (.Tuple [a, b] k2 pt2) X.env = pure none) :
    PS X (.Assign [.Tuple [.Name x px, .Name y py] kt pt] (.Tuple [a, b] k2 pt2) pos) (tS X.K fun st => setS2 st i j (evKf ka fa st) (evKf kb fb st)) :=
  PS.imp (fun D σ H ⟨B0, H0, st, r, dm, ⟨fp, sr⟩, h, p⟩ => by
    obtain ⟨s1, s2, h1, h2, hi, hj, rfl⟩ := setS2_some h
    refine run_K sr dm (Ex.refl H) sr (fun a z => .inl z) h1 hi fun v H1 e1 ⟨fp1, r1, hb1⟩ => ?_
    refine run_K (i := j) sr dm e1 r1 hb1 h2 (by rw [List.length_set]; exact hj) fun w H2 e2 ⟨fp2, r2, hb2⟩ => ⟨lim_ok (n := 2) (by decide), fun q nq => ?_⟩
    exact ⟨q, [v, w], rfl, .of upd_same, rfl, v, [w], rfl, w, [], rfl, rfl, p _ _ ⟨fp2, r2.step (Ex.new nq)⟩⟩) (ps_asg (pe_tup (pa_cons ha (pa_cons hb pa_nil hs2) hs1)) (pg_tup hc (pgs_cons (pg_name (i := i) hN hi hx hfx) (pgs_cons (pg_name (i := j) hN hj hy hfy) pgs_nil (by rfl)) (by rfl)) (by rfl) (by rfl)) sws_tup hw (by rfl))
/-! ### new lists -/
section
variable {X : Cx} {c : CC} {Φ : Nat → List D → Option D} {cs : Nat → Int} {f : Env → Option D} {es : List Expr} {e a : Expr} {pos : Pos}
theorem df_lst (h : PA X es (eA X.K f)) : PE X (.List es pos) (eF X.K fun ρ => opL (fun ds => if ds.length ≤ lim then some (.lst ds) else none) (f ρ)) :=
  PE.imp (fun σ H Q ⟨B, ρ, d, dm, re, h, q⟩ => by
    obtain ⟨ds, hx, hz⟩ := opL_some h
    split at hz
    · cases hz
      refine ⟨B, ρ, d, dm, re, hx, fun vs H1 e1 rs => ⟨?_, fun p np => q p vs _ (e1.trans (Ex.new np)) (e1.fresh np) upd_same (fresh_lst np rs)⟩⟩
      rw [← rs.length]
      exact lim_ok (by assumption)
    · cases hz) (pe_lst h)
theorem df_add {b : Expr} {g : Env → Option D} (ha : PE X e (eD X.K f)) (hb : PE X b (eD X.K g)) : PE X (.BinOp e .Add b pos) (eF X.K fun ρ => op2 addD (f ρ) (g ρ)) :=
  PE.imp (fun σ H Q ⟨B, ρ, ds, dm, re, h, q⟩ => by
    obtain ⟨x, y, hx, hy, hz⟩ := op2_some h
    unfold addD at hz
    split at hz
    · cases hz
    · rename_i xs ys
      split at hz
      · cases hz
        rename_i hl
        refine ⟨B, ρ, _, dm, re, hx, fun v H1 e1 rx => ⟨B, ρ, _, dm.mono e1, re.ex e1, hy, fun u H2 e2 ry => ?_⟩⟩
        have rx := rx.ex e2
        cases rx with
        | @lst l1 vs _ h1 n1 r1 =>
          cases ry with
          | @lst l2 us _ h2 n2 r2 =>
            have q1 := r1.length
            have q2 := r2.length
            exact ⟨l1, l2, vs, us, rfl, rfl, h1, h2, lim_ok (by omega), fun p np => q p _ _ ((e1.trans e2).trans (Ex.new np)) ((e1.trans e2).fresh np) upd_same (fresh_lst np (r1.append r2))⟩
      · cases hz
    · split at hz <;> cases hz
    · split at hz <;> cases hz
    · cases hz) (pe_op op_cat ha hb)
theorem df_toL {x1 : Str} {p : Pos} {cs' : List Expr} (e1 : x1 = "list") (hc : X.calm = true) (hg : Gl X x1) (hm : X.mg x1 = none) (ha : PA X (e :: cs') (eA X.K f)) (hs : starEach (e :: cs') X.env = (false, eval e X.env) :: starEach cs' X.env) (hpl : (backTo pos (starEach cs' X.env)).any (·.1) = false) :
    PE X (.Call (.Name x1 p) (e :: cs') [] pos) (eF X.K fun ρ => opL toLD (f ρ)) := by
  subst e1
  exact PE.imp (fun σ H Q ⟨B, ρ, ds, dm, re, h, q⟩ => by
    obtain ⟨xs, hx, hz⟩ := opL_some h
    refine ⟨B, ρ, xs, dm, re, hx, fun vs H1 e1 rs => ?_⟩
    unfold toLD at hz
    split at hz
    · cases hz
      obtain ⟨v, rfl, rx⟩ := rs.one
      cases rx with
      | @lst a us _ h1 n1 r1 => exact ⟨a, us, rfl, .inl (.of h1), fun p np => q p _ _ (e1.trans (Ex.new np)) (e1.fresh np) upd_same (fresh_lst np r1)⟩
    · cases hz
      obtain ⟨v, rfl, rx⟩ := rs.one
      cases rx with
      | @tup a us _ h1 n1 r1 => exact ⟨a, us, rfl, .inr (.of h1), fun p np => q p _ _ (e1.trans (Ex.new np)) (e1.fresh np) upd_same (fresh_lst np r1)⟩
    · cases hz) (pe_callTy call_toL hg hm (by rfl) ha (by decide) (by rfl) hs hpl)
theorem df_lrng {x1 x2 : Str} {p q p3 : Pos} (hc : X.calm = true) (e1 : x1 = "list") (e2 : x2 = "range") (hg : Gl X x1) (hm : X.mg x1 = none) (hg2 : Gl X x2) (hm2 : X.mg x2 = none) (ha : PE X a (eD X.K f))
    (hs : starEach [a] X.env = (false, eval a X.env) :: starEach [] X.env) : PE X (.Call (.Name x1 p) [.Call (.Name x2 q) [a] [] p3] [] pos) (eF X.K fun ρ => op1 lrngD (f ρ)) := by
  subst e1 e2
  exact PE.imp (fun σ H Q ⟨B, ρ, d, dm, re, h, qq⟩ => by
    obtain ⟨x, hx, hz⟩ := op1_some h
    unfold lrngD at hz
    split at hz
    · split at hz
      · rename_i n c
        cases hz
        rw [Bool.and_eq_true, decide_eq_true_eq, decide_eq_true_eq] at c
        refine ⟨B, ρ, _, dm, re, hx, fun v H1 e1 rx => ?_⟩
        cases rx
        exact ⟨n, rfl, rgOk0 c.1 c.2, fun q' nq => qq q' _ _ (e1.trans (Ex.new nq)) (e1.fresh nq) upd_same (fresh_lst nq (rngL_rp 0 n))⟩
      · cases hz
    · cases hz) (pe_listRg hc hg hm (prg_1 hg2 hm2 ha hs) (by rfl))

/-! ### the checker -/
def cFresh (e : E) (c : CC) (x : Expr) : Bool := match e, x with
  | .lst r, .List es _ => chk r c 2 es
  | .blt f r, .Call (.Name x _) (e :: es) [] _ => f == .toL && (x == Str.ofString "list" && (glC c.sc x && (noStar e && (es.all noStar && chk r c 2 (e :: es)))))
  | .bin op a b, .BinOp x o y _ => op == .add && (o == .Add && (chk a c 0 [x] && chk b c 0 [y]))
  | .lrng a, .Call (.Name x _) [.Call (.Name y _) [e] [] _] [] _ => x == Str.ofString "list" && (y == Str.ofString "range" && (glC c.sc x && (glC c.sc y && (noStar e && chk a c 0 [e]))))
  | _, _ => false
def chkK (k : Kd) (e : E) (c : CC) (x : Expr) : Bool := match k with
  | .val => chk e c 0 [x]
  | .lst => cFresh e c x
  | .dic => (match x with
    | .Dict [] [] _ => true
    | _ => false)
def lcl (c : CC) (x : Str) : Bool := c.sc.names.lookup x == some .local
def nmC (c : CC) (i : Nat) (x : Str) : Bool := c.N[i]? == some x && (visC c.sc x && nodbg x)
def fnC (c : CC) : Bool := decide (c.sc.kind = .function)
def swC (c : CC) (x : Str) (px : Pos) (scope : Scope) (p : Pos) : Bool := fnC c && (lcl c x && (px.line == p.line && !(scope.names.any fun (n, k) => n == x && (k == .local || k == .cell))))
abbrev CkS := CC → List Stmt → Bool
def isCm : E → Bool
  | .comp .. => true
  | _ => false
def isCm2 : E → Bool
  | .comp2 .. => true
  | _ => false
def cel (c : CC) (x : Str) : Bool := c.sc.names.lookup x == some .cell
def cAsg (k : Kd) (i : Nat) (e : E) : CkS := fun c xs => match xs with
  | [.Assign [.Name x px] (.ListComp elt gs scope p) _] => c.N[i]? == some x && (chk e c 0 [.ListComp elt gs scope p] && (if cel c x then locC c x && (match k with
    | .val => true
    | .lst => isCm e
    | .dic => false) else swC c x px scope p && ((decide (k ≠ .dic) && isCm e) || (decide (k = .val) && isCm2 e))))
  | [.Assign [.Name x _] v _] => c.N[i]? == some x && (locC c x && (noComp v && chkK k e c v))
  | _ => false
def cOwnR (i : Nat) (vs : List Nat) (j : Nat) (it : E) : CkS := fun c xs => match xs with
  | [.Assign [.Name x px] (.ListComp (.Call (.Name f _) [.Name y _] [] _) [⟨.Name z _, iter, [], 0⟩] scope p) _] => c.N[i]? == some x && (swC c x px scope p && (decide (j ∈ vs) && (blkC c.N c.sc scope (ownOf c vs) && (f == Str.ofString "list" && (glC (c.blk scope).sc f && (nmC (c.blk scope) j y && ((c.blk scope).N[j]? == some z && (locC (c.blk scope) z && (noSet iter && (!pairIt it && chk it c 1 [iter]))))))))))
  | _ => false
def cFrz (i j : Nat) : CkS := fun c xs => match xs with
  | [.Assign [.Name x _] (.Name y _) _] => c.N[i]? == some x && (locC c x && nmC c j y)
  | _ => false
def cPar (i j : Nat) (ka kb : Kd) (a b : E) : CkS := fun c xs => match xs with
  | [.Assign [.Tuple [.Name x px, .Name y py] _ _] (.Tuple [u, v] _ _) _] => c.N[i]? == some x && (c.N[j]? == some y && (noStar u && (noStar v && (chkK ka a c u && (chkK kb b c v && (if cel c x || cel c y then locC c x && locC c y else (decide (i ≠ j) && (fnC c && (lcl c x && (lcl c y && (py.line == px.line && ((y == x) == false && ([u, v].all (foldedForSure 8) == false && [u, v].all (constantsAlone 8) == false)))))))))))))
  | _ => false
def cUnp (tg : List Nat) (e : E) : CkS := fun c xs => match xs with
  | [.Assign [.Tuple es _ _] v _] => tgC c tg es && (noTup v && chk e c 0 [v])
  | _ => false
def cApp (i : Nat) (e : E) : CkS := fun c xs => match xs with
  | [.Expr (.Call (.Attribute (.Name x _) m apos) [v] [] cpos) _] => m == Str.ofString "append" && (nmC c i x && (noStar v && (apos.endLine == cpos.line && chk e c 0 [v])))
  | _ => false
def cAppF (i j : Nat) : CkS := fun c xs => match xs with
  | [.Expr (.Call (.Attribute (.Name x _) m apos) [.Name y _] [] cpos) _] => m == Str.ofString "append" && (nmC c i x && (nmC c j y && apos.endLine == cpos.line))
  | _ => false
def cAppP (i j : Nat) (k : E) : CkS := fun c xs => match xs with
  | [.Expr (.Call (.Attribute (.Name x _) m apos) [.Call (.Attribute (.Name y _) m2 apos2) [v] [] cpos2] [] cpos) _] => m == Str.ofString "append" && (m2 == Str.ofString "pop" && (nmC c i x && (nmC c j y && (noStar v && (apos.endLine == cpos.line && (apos2.endLine == cpos2.line && chk k c 0 [v]))))))
  | _ => false
def cSetL (i : Nat) (k e : E) : CkS := fun c xs => match xs with
  | [.Assign [.Subscript (.Name x _) u _] v _] => nmC c i x && (noSlice u && (chk k c 0 [u] && chk e c 0 [v]))
  | _ => false
def cSetD (i : Nat) (k e : E) : CkS := fun c xs => match xs with
  | [.Assign [.Subscript (.Name x _) u _] v _] => nmC c i x && (chk k c 0 [u] && chk e c 0 [v])
  | _ => false
def cSetR (i : Nat) (k k2 e : E) : CkS := fun c xs => match xs with
  | [.Assign [.Subscript (.Subscript (.Name x _) u _) w _] v _] => nmC c i x && (noSlice u && (noSlice w && (chk k c 0 [u] && (chk k2 c 0 [w] && chk e c 0 [v]))))
  | _ => false
def cSetC (i : Nat) (k : E) (f : Nat) (k2 r : E) : CkS := fun c xs => match xs with
  | [.Assign [.Subscript (.Name x _) u _] (.Call (.Name fn _) (.Subscript (.Name y _) w _ :: es) [] _) _] => y == x && (nmC c i x && (noSlice u && (noSlice w && (c.fns[f]? == some fn && (nodbg fn && (glC c.sc fn && (es.all noStar && (chk k c 0 [u] && (chk k2 c 0 [w] && chk r c 2 es)))))))))
  | _ => false
def cIte (t : E) (ra rb : CkS) : CkS := fun c xs => match xs with
  | [.If u a b _] => tstE u && (chk t c 0 [u] && (ra c a && rb c b))
  | _ => false
def cFor (tg : List Nat) (pair : Bool) (it : E) (rb : CkS) : CkS := fun c xs => match xs with
  | [.For tge iter body [] _] => tgE c tg pair tge && (noSet iter && ((!pairIt it || isTup tge) && (chk it c 1 [iter] && rb c body)))
  | _ => false
def cRet (e : E) : CkS := fun c xs => match xs with
  | [.Return (some v) _] => chk e c 0 [v]
  | _ => false
def cRetN : CkS := fun c xs => match xs with
  | [.Return none _] => true
  | _ => false
def cSeq (ra rb : CkS) : CkS := fun c xs => match xs with
  | s :: ss => ra c [s] && rb c ss
  | _ => false
def notSeq : S → Bool
  | .seq _ _ => false
  | .skip => false
  | .fz _ m => notSeq m
  | _ => true
def chkS : S → CkS
  | .skip => fun c xs => xs.isEmpty
  | .seq a b => fun c xs => notSeq a && cSeq (chkS a) (chkS b) c xs
  | .asg i e => cAsg .val i e
  | .own k i e => cAsg k i e
  | .ownR i vs j it => cOwnR i vs j it
  | .frz i j => cFrz i j
  | .par i j ka kb a b => cPar i j ka kb a b
  | .unp tg e => cUnp tg e
  | .app i e => cApp i e
  | .appF i j => cAppF i j
  | .appP i j k => cAppP i j k
  | .setL i k e => cSetL i k e
  | .setD i k e => cSetD i k e
  | .setR i k k2 e => cSetR i k k2 e
  | .ite t a b => cIte t (chkS a) (chkS b)
  | .for_ tg pair it body => cFor tg pair it (chkS body)
  | .fz i m => chkS m
  | .setC i k f k2 r => cSetC i k f k2 r
  | .ret e => cRet e
  | .retN => cRetN

/-! ### soundness -/
section
variable {X : Cx} {c : CC} {Φ : Nat → List D → Option D} {cs : Nat → Int} {e a b it : E}
structure SndS (X : Cx) (Φ : Nat → List D → Option D) (cs : Nat → Int) (m : S) (xs : List Stmt) : Prop where
  ps : notSeq m = true → ∃ s, xs = [s] ∧ PS X s (tS X.K (ex Φ cs m))
  pss : PSs X xs (tS X.K (ex Φ cs m))
theorem SndS.one {m : S} {s : Stmt} (h : PS X s (tS X.K (ex Φ cs m))) : SndS X Φ cs m [s] := ⟨fun _ => ⟨s, rfl, h⟩, pss_one h⟩
abbrev IHS (Φ : Nat → List D → Option D) (cs : Nat → Int) (m : S) : Prop := ∀ {X : Cx} {c : CC} {xs : List Stmt}, Good X c Φ cs → chkS m c xs = true → SndS X Φ cs m xs
theorem q_at {m : E} (g : Good X c Φ cs) {x : Expr} (h : chk m c 0 [x] = true) : SndE X Φ cs m x := IH.at (snd_all m) g h
theorem q_ar {m : E} (g : Good X c Φ cs) {es : List Expr} (h : chk m c 2 es = true) : PA X es (eA X.K (ev Φ cs m)) := IH.ar (snd_all m) g h
theorem q_it {m : E} (g : Good X c Φ cs) {x tg : Expr} (h : chk m c 1 [x] = true) (ht : pairIt m = true → isTup tg = true) : PI X tg x (eI X.K fun ρ => itemsO (ev Φ cs m ρ)) := IH.itr (snd_all m) g h ht
theorem q_ifs {m : E} (g : Good X c Φ cs) {ifs : List Expr} (h : cIfs m (chk m) c ifs = true) : PTs X ifs (eT X.K (ev Φ cs m)) := ifs_of (snd_all m) g h
theorem nm_of (g : Good X c Φ cs) {i : Nat} {x : Str} (h : nmC c i x = true) : X.N[i]? = some x ∧ Vis X.env.scope x ∧ (x == ("__debug__" : Str)) = false ∧ (x == ("__classdict__" : Str)) = false := by
  unfold nmC at h
  simp only [Bool.and_eq_true, beq_iff_eq] at h
  obtain ⟨h1, h2, h3⟩ := h
  exact ⟨by rw [g.N]; exact h1, vis_of g h2, (dbg_of h3).1, (dbg_of h3).2.1⟩
theorem sw_of (g : Good X c Φ cs) {x : Str} {px p : Pos} {scope : Scope} {elt : Expr} {gs : List Comprehension} {l : Nat} (h : swC c x px scope p = true) : X.env.scope.names.lookup x = some .local ∧ swapsWith (.ListComp elt gs scope p) (some (.Name x px)) l X.env = pure true := by
  unfold swC fnC lcl at h
  simp only [Bool.and_eq_true, decide_eq_true_eq, Bool.not_eq_true'] at h
  obtain ⟨h1, h2, h3, h4⟩ := h
  rw [← g.sc] at h1 h2
  have h2' := beq_iff_eq.mp h2
  exact ⟨h2', sw_true h1 h2' h3 h4⟩
theorem fresh_of (g : Good X c Φ cs) {x : Expr} (h : cFresh e c x = true) : PE X x (eF X.K (ev Φ cs e)) := by
  unfold cFresh at h
  split at h
  · exact df_lst (q_ar g h)
  · simp only [Bool.and_eq_true, beq_iff_eq] at h
    obtain ⟨rfl, rfl, h2, h3, h4, h5⟩ := h
    exact df_toL rfl g.calm (gl_of g h2) (g.blt _ mem_list) (q_ar g h5) (star1 h3 _ _) (starL h4)
  · simp only [Bool.and_eq_true, beq_iff_eq] at h
    obtain ⟨rfl, rfl, h2, h3⟩ := h
    exact df_add (q_at g h2).pe (q_at g h3).pe
  · simp only [Bool.and_eq_true, beq_iff_eq] at h
    obtain ⟨rfl, rfl, h2, h3, h4, h5⟩ := h
    exact df_lrng g.calm rfl rfl (gl_of g h2) (g.blt _ mem_list) (gl_of g h3) (g.blt _ mem_range) (q_at g h5).pe (star1 h4 _ _)
  · cases h
theorem kd_of {k : Kd} (g : Good X c Φ cs) {x : Expr} (h : chkK k e c x = true) : PE X x (eK X.K k (ev Φ cs e)) := by
  unfold chkK at h
  cases k with
  | val => exact (q_at g h).pe
  | lst => exact fresh_of g h
  | dic =>
    dsimp only at h
    split at h
    · exact pe_dnewT
    · cases h
structure CompQ (X : Cx) (Φ : Nat → List D → Option D) (cs : Nat → Int) (e : E) (elt : Expr) (gs : List Comprehension) (scope : Scope) (p : Pos) : Prop where
  ok : ∃ vs tg pair it t el tge iter ifs gt, e = .comp vs tg pair it t el ∧ gs = [⟨tge, iter, ifs, 0⟩] ∧ PI X tge iter (eI X.K fun ρ => itemsO (ev Φ cs it ρ)) ∧ (∃ own : List (Str × Nat), own.map (·.2) = vs ∧ BlkOk X.N X.env.scope scope own) ∧ TgD X.K gt tg pair ∧ (∀ i ∈ tg, i ∈ vs) ∧
    (∀ (s : Shared) (H : Hp) (C : Addr) (cl : List (Str × Addr)) (fp : List Addr), PG (X.blk s H scope (compEnvC scope cl C X.env) fp) tge gt) ∧
    (∀ (s : Shared) (H : Hp) (C : Addr) (cl : List (Str × Addr)) (fp : List Addr), PTs (X.blk s H scope (compEnvC scope cl C X.env) fp) ifs (eT X.K (ev Φ cs t))) ∧
    (∀ (s : Shared) (H : Hp) (C : Addr) (cl : List (Str × Addr)) (fp : List Addr), PE (X.blk s H scope (compEnvC scope cl C X.env) fp) elt (eD X.K (ev Φ cs el))) ∧ (∀ x, foldedSetIterable iter X.env x = pure x)
theorem comp_of {elt : Expr} {gs : List Comprehension} {scope : Scope} {p : Pos} (g : Good X c Φ cs) (hm : isCm e = true) (h : chk e c 0 [.ListComp elt gs scope p] = true) : CompQ X Φ cs e elt gs scope p := by
  cases e <;> first | (cases hm; done) | skip
  rename_i vs tg pair it t el
  simp only [chk] at h
  unfold cComp at h
  split at h
  · rename_i elt' tge iter ifs scope' p' heq
    cases heq
    simp only [Bool.and_eq_true, decide_eq_true_eq, Bool.or_eq_true, Bool.not_eq_true'] at h
    obtain ⟨_, g2, g3, g4, g5, g6, g7, g8, g9⟩ := h
    have hb : BlkOk X.N X.env.scope scope (ownOf c vs) := by
      rw [g.N, g.sc]
      exact blkOk_by g2
    obtain ⟨gt, hg, hgd⟩ := tgb_of g g3
    have hi : PI X tge iter (eI X.K fun ρ => itemsO (ev Φ cs it ρ)) := q_it g g7 fun z => by
      rcases g6 with g6 | g6
      · rw [z] at g6
        cases g6
      · exact g6
    exact ⟨vs, tg, pair, it, t, el, tge, iter, ifs, gt, rfl, rfl, hi, ⟨_, ownOf_snd c vs, hb⟩, hgd, subL_of g4, hg, fun s H C cl fp => q_ifs (g.blk s H scope C cl fp) g9, fun s H C cl fp => (q_at (g.blk s H scope C cl fp) g8).pe, fold_of g5⟩
  · cases h
theorem t_asg {k : Kd} {i : Nat} {xs : List Stmt} (g : Good X c Φ cs) (h : cAsg k i e c xs = true) : SndS X Φ cs (.own k i e) xs := by
  have hN : X.N.Nodup := g.N ▸ g.nd
  have ee : ex Φ cs (.own k i e) = fun st => setS st i (evKf k (ev Φ cs e) st) := by
    funext st
    cases k <;> rfl
  unfold cAsg at h
  split at h
  · rename_i x px elt gs scope p spos
    simp only [Bool.and_eq_true, beq_iff_eq] at h
    obtain ⟨h1, h2, h3⟩ := h
    refine .one ?_
    rw [ee]
    split at h3
    · rename_i hc
      rw [Bool.and_eq_true] at h3
      obtain ⟨l1, l2⟩ := loc_of g h3.1
      have hc' : X.env.scope.names.lookup x = some .cell := by
        rw [g.sc]
        exact beq_iff_eq.mp hc
      refine ds_own hN (by rw [g.N]; exact h1) l1 l2 ?_ (swp_cell hc')
      cases k with
      | val => exact (q_at g h2).pe
      | lst =>
        obtain ⟨vs, tg, pair, it, t, el, tge, iter, ifs, gt, rfl, rfl, hi, ⟨own, ho, hb⟩, hgd, hsub, hg, ht, he, hs⟩ := (comp_of g h3.2 h2).ok
        subst ho
        exact df_comp g.calm hN hi hb hgd hsub hg ht he hs
      | dic => cases h3.2
    · simp only [Bool.and_eq_true, Bool.or_eq_true, decide_eq_true_eq] at h3
      obtain ⟨h3, h45⟩ := h3
      obtain ⟨hl, hsw⟩ := sw_of (gs := gs) (elt := elt) (l := spos.line) g h3
      rcases h45 with ⟨h4, h5⟩ | ⟨h4, h5⟩
      rotate_left
      · subst h4
        cases e <;> first | (cases h5; done) | skip
        rename_i vs j j1 it it1 t el
        simp only [chk] at h2
        unfold cComp2 at h2
        split at h2
        · rename_i elt' tge iter tge1 iter1 ifs scope' pos heq
          cases heq
          simp only [Bool.and_eq_true, decide_eq_true_eq, Bool.not_eq_true'] at h2
          obtain ⟨_, g2, g3, g3', g4, g5, g5', g6, g6', g7, g7', g8, g9⟩ := h2
          have hb : BlkOk X.N X.env.scope scope (ownOf c vs) := by
            rw [g.N, g.sc]
            exact blkOk_by g2
          have sub := subL_of g4
          have nm : ∀ (tge : Expr) (j : Nat), tgE (c.blk scope) [j] false tge = true → ∀ (s : Shared) (H : Hp) (C : Addr) (cl : List (Str × Addr)) (fp : List Addr), PG (X.blk s H scope (compEnvC scope cl C X.env) fp) tge (gName j) := by
            intro tge j h s H C cl fp
            cases tge <;> first | (cases h; done) | skip
            · have g' := g.blk s H scope C cl fp
              simp only [tgE, Bool.and_eq_true, beq_iff_eq] at h
              obtain ⟨l1, l2⟩ := loc_of g' h.2.2
              exact pg_name (g'.N ▸ g'.nd) (by rw [g'.N]; exact h.2.1) l1 l2
          have p := ds_setLc2 (X := X) (i := i) (py := px) (spos := spos) (ft := ev Φ cs t) (fk := ev Φ cs el) (ifs1 := ifs) (pos := p) (j := j) (j1 := j1) g.calm hN (by rw [g.N]; exact h1) hl hsw (q_it g g7 fun z => by rw [z] at g6; cases g6) hb (by rw [ownOf_snd]; exact sub _ List.mem_cons_self) (by rw [ownOf_snd]; exact sub _ (List.mem_cons_of_mem _ List.mem_cons_self))
            (nm tge j g3) (fun s H C cl fp => q_it (g.blk s H scope C cl fp) g7' fun z => by rw [z] at g6'; cases g6') (nm tge1 j1 g3')
            (fun s H C cl fp => q_ifs (g.blk s H scope C cl fp) g9) (fun s H C cl fp => (q_at (g.blk s H scope C cl fp) g8).pe) (fold_of g5) (fun env x => fold_of g5' x)
          rw [ownOf_snd] at p
          exact p
        · cases h2
      obtain ⟨vs, tg, pair, it, t, el, tge, iter, ifs, gt, rfl, rfl, hi, ⟨own, ho, hb⟩, hgd, hsub, hg, ht, he, hs⟩ := (comp_of g h5 h2).ok
      subst ho
      exact ds_setLc (X := X) (k := k) (i := i) (spos := spos) (py := px) h4 g.calm hN (by rw [g.N]; exact h1) hl hsw hi hb hgd hsub hg ht he hs
  · simp only [Bool.and_eq_true, beq_iff_eq] at h
    obtain ⟨h1, h2, h3, h4⟩ := h
    obtain ⟨l1, l2⟩ := loc_of g h2
    refine .one ?_
    rw [ee]
    exact ds_own hN (by rw [g.N]; exact h1) l1 l2 (kd_of g h4) (swp_none h3 _ _ _)
  · cases h
theorem t_ownR {i j : Nat} {vs : List Nat} {xs : List Stmt} (g : Good X c Φ cs) (h : cOwnR i vs j it c xs = true) : SndS X Φ cs (.ownR i vs j it) xs := by
  have hN : X.N.Nodup := g.N ▸ g.nd
  unfold cOwnR at h
  split at h
  · rename_i x px f pf y py pc z pz iter scope p spos
    simp only [Bool.and_eq_true, decide_eq_true_eq, beq_iff_eq, Bool.not_eq_true'] at h
    obtain ⟨h1, h2, h3, h4, h5, h6, h7, h8, h9, h10, h11, h12⟩ := h
    subst h5
    obtain ⟨hl, hsw⟩ := sw_of (gs := [⟨.Name z pz, iter, [], 0⟩]) (elt := .Call (.Name (Str.ofString "list") pf) [.Name y py] [] pc) (l := spos.line) g h2
    have hb : BlkOk X.N X.env.scope scope (ownOf c vs) := by
      rw [g.N, g.sc]
      exact blkOk_by h4
    refine .one (PS.imp (fun D σ H h => h) (ds_ownR (X := X) (i := i) (j := j) (own := ownOf c vs) (fi := fun ρ => itemsO (ev Φ cs it ρ)) (by rw [ownOf_snd]; exact h3) g.calm hN (by rw [g.N]; exact h1) hl (by rw [g.N]; exact (List.getElem?_eq_some_iff.mp h8).1) hsw (q_it g h12 fun z => by rw [z] at h11; cases h11) hb
      (fun s H C cl fp => ?_) (fun s H C cl fp => ?_) (fold_of h10)))
    · have g' := g.blk s H scope C cl fp
      obtain ⟨l1, l2⟩ := loc_of g' h9
      exact pg_name (g'.N ▸ g'.nd) (by rw [g'.N]; exact h8) l1 l2
    · have g' := g.blk s H scope C cl fp
      obtain ⟨n1, n2, n3, n4⟩ := nm_of g' h7
      exact pe_callTy call_toL (gl_of g' h6) (g'.blt _ mem_list) PyProof.Rows.boot_list (pa_cons (pe_var n1 n2 n3 n4) pa_nil) (by decide +kernel) (by decide +kernel)
  · cases h
theorem t_frz {i j : Nat} {xs : List Stmt} (g : Good X c Φ cs) (h : cFrz i j c xs = true) : SndS X Φ cs (.frz i j) xs := by
  have hN : X.N.Nodup := g.N ▸ g.nd
  unfold cFrz at h
  split at h
  · simp only [Bool.and_eq_true, beq_iff_eq] at h
    obtain ⟨h1, h2, h3⟩ := h
    obtain ⟨l1, l2⟩ := loc_of g h2
    obtain ⟨n1, n2, n3, n4⟩ := nm_of g h3
    exact .one (ds_frz hN (by rw [g.N]; exact h1) l1 l2 n1 n2 n3 n4)
  · cases h
theorem t_par {i j : Nat} {ka kb : Kd} {xs : List Stmt} (g : Good X c Φ cs) (h : cPar i j ka kb a b c xs = true) : SndS X Φ cs (.par i j ka kb a b) xs := by
  have hN : X.N.Nodup := g.N ▸ g.nd
  have ee : ex Φ cs (.par i j ka kb a b) = fun st => setS2 st i j (evKf ka (ev Φ cs a) st) (evKf kb (ev Φ cs b) st) := by
    funext st
    cases ka <;> cases kb <;> rfl
  unfold cPar at h
  split at h
  · simp only [Bool.and_eq_true, beq_iff_eq] at h
    obtain ⟨h1, h2, h9, h10, h13, h14, h3⟩ := h
    refine .one ?_
    rw [ee]
    split at h3
    · rename_i hc
      rw [Bool.and_eq_true] at h3
      obtain ⟨l1, l2⟩ := loc_of g h3.1
      obtain ⟨m1, m2⟩ := loc_of g h3.2
      refine ds_parT g.calm hN (by rw [g.N]; exact h1) (by rw [g.N]; exact h2) l1 m1 l2 m2 (kd_of g h13) (kd_of g h14) (star1 h9 _ _) (star1 h10 _ _) (swd_cell ?_)
      rw [g.sc]
      rw [Bool.or_eq_true] at hc
      exact hc.imp (fun z => beq_iff_eq.mp z) fun z => beq_iff_eq.mp z
    · simp only [Bool.and_eq_true, decide_eq_true_eq, fnC, lcl] at h3
      obtain ⟨h3, h4, h5, h6, h7, h8, h11, h12⟩ := h3
      have h5 := beq_iff_eq.mp h5
      have h6 := beq_iff_eq.mp h6
      have h8 := beq_iff_eq.mp h8
      have h11 := beq_iff_eq.mp h11
      have h12 := beq_iff_eq.mp h12
      rw [← g.sc] at h4 h5 h6
      exact ds_par g.calm hN (by rw [g.N]; exact h1) (by rw [g.N]; exact h2) h3 h5 h6 (kd_of g h13) (kd_of g h14) (star1 h9 _ _) (star1 h10 _ _) (swd_par h4 h5 h6 h7 h8 h9 h10 h11 h12)
  · cases h
theorem tgs_of (g : Good X c Φ cs) : ∀ (tg : List Nat) (es : List Expr), tgC c tg es = true → PGs X es (gsOf tg) ∧ (assignEach es X.env).length = tg.length ∧ (assignEach es X.env).findIdx? (·.1) = none
  | [], [], _ => ⟨pgs_nil, rfl, rfl⟩
  | [], _ :: _, h => by cases h
  | _ :: _, [], h => by cases h
  | j :: js, e :: es, h => by
    cases e <;> first | (cases h; done) | skip
    rename_i x px
    simp only [tgC, Bool.and_eq_true, beq_iff_eq] at h
    obtain ⟨⟨h1, h2⟩, h3⟩ := h
    obtain ⟨a, b, d⟩ := tgs_of g js es h3
    obtain ⟨l1, l2⟩ := loc_of g h2
    refine ⟨pgs_cons (pg_name (i := j) (g.N ▸ g.nd) (by rw [g.N]; exact h1) l1 l2) a (by rfl), ?_, ?_⟩
    · show (assignEach es X.env).length + 1 = js.length + 1
      rw [b]
    · show ((false, assign (.Name x px) X.env) :: assignEach es X.env).findIdx? (·.1) = none
      rw [List.findIdx?_cons]
      simp only [Bool.false_eq_true, if_false, d, Option.map_none]
theorem t_unp {tg : List Nat} {xs : List Stmt} (g : Good X c Φ cs) (h : cUnp tg e c xs = true) : SndS X Φ cs (.unp tg e) xs := by
  unfold cUnp at h
  split at h
  · simp only [Bool.and_eq_true] at h
    obtain ⟨h1, h2, h3⟩ := h
    obtain ⟨p1, p2, p3⟩ := tgs_of g _ _ h1
    exact .one (ds_unp g.calm p1 p2 p3 (q_at g h3).pe sws_tup (swd_tup h2))
  · cases h
theorem tgv_of (g : Good X c Φ cs) {tg : List Nat} {pair : Bool} {e : Expr} (h : tgE c tg pair e = true) : ∃ t, PG X e t ∧ TgS X.K t tg pair := by
  have hN : X.N.Nodup := g.N ▸ g.nd
  cases e <;> first | (cases h; done) | skip
  · rename_i x px
    simp only [tgE, Bool.and_eq_true, Bool.not_eq_true'] at h
    obtain ⟨h1, h2⟩ := h
    subst h1
    split at h2
    · simp only [Bool.and_eq_true, beq_iff_eq] at h2
      obtain ⟨l1, l2⟩ := loc_of g h2.2
      exact ⟨_, pg_name hN (by rw [g.N]; exact h2.1) l1 l2, tgs_name _⟩
    · cases h2
  · rename_i es k pos
    simp only [tgE, Bool.and_eq_true] at h
    obtain ⟨h1, h2⟩ := h
    subst h1
    obtain ⟨a, b, d⟩ := tgs_of g tg es h2
    exact ⟨_, pg_tup g.calm a b d, tgs_tup tg⟩
theorem t_app {i : Nat} {xs : List Stmt} (g : Good X c Φ cs) (h : cApp i e c xs = true) : SndS X Φ cs (.app i e) xs := by
  unfold cApp at h
  split at h
  · simp only [Bool.and_eq_true, beq_iff_eq] at h
    obtain ⟨rfl, h1, h2, h3, h4⟩ := h
    obtain ⟨n1, n2, n3, n4⟩ := nm_of g h1
    exact .one (ds_app n1 n2 n3 n4 (q_at g h4).pe h2 (by simpa using h3))
  · cases h
theorem t_appF {i j : Nat} {xs : List Stmt} (g : Good X c Φ cs) (h : cAppF i j c xs = true) : SndS X Φ cs (.appF i j) xs := by
  unfold cAppF at h
  split at h
  · simp only [Bool.and_eq_true, beq_iff_eq] at h
    obtain ⟨rfl, h1, h2, h3⟩ := h
    obtain ⟨n1, n2, n3, n4⟩ := nm_of g h1
    obtain ⟨m1, m2, m3, m4⟩ := nm_of g h2
    exact .one (ds_appF n1 n2 n3 n4 m1 m2 m3 m4 (by simpa using h3))
  · cases h
theorem t_appP {i j : Nat} {xs : List Stmt} (g : Good X c Φ cs) (h : cAppP i j e c xs = true) : SndS X Φ cs (.appP i j e) xs := by
  unfold cAppP at h
  split at h
  · simp only [Bool.and_eq_true, beq_iff_eq] at h
    obtain ⟨rfl, rfl, h1, h2, h3, h4, h5, h6⟩ := h
    obtain ⟨n1, n2, n3, n4⟩ := nm_of g h1
    obtain ⟨m1, m2, m3, m4⟩ := nm_of g h2
    exact .one (ds_appP n1 n2 n3 n4 m1 m2 m3 m4 (q_at g h6).pe h3 (by simpa using h4) (by simpa using h5))
  · cases h
theorem t_setL {i : Nat} {xs : List Stmt} (g : Good X c Φ cs) (h : cSetL i a e c xs = true) : SndS X Φ cs (.setL i a e) xs := by
  unfold cSetL at h
  split at h
  · simp only [Bool.and_eq_true] at h
    obtain ⟨h1, h2, h3, h4⟩ := h
    obtain ⟨n1, n2, n3, n4⟩ := nm_of g h1
    exact .one (ds_setL n1 n2 n3 n4 (q_at g h3).pe (q_at g h4).pe h2 sws_sub swd_sub)
  · cases h
theorem t_setC {i f : Nat} {r : E} {xs : List Stmt} (g : Good X c Φ cs) (h : cSetC i a f b r c xs = true) : SndS X Φ cs (.setC i a f b r) xs := by
  unfold cSetC at h
  split at h
  · simp only [Bool.and_eq_true, beq_iff_eq] at h
    obtain ⟨rfl, h1, h2, h3, h4, h5, h6, h7, h8, h9, h10⟩ := h
    obtain ⟨n1, n2, n3, n4⟩ := nm_of g h1
    obtain ⟨k, fa, fd, ps, F, hr, hm, hk, hb⟩ := (g.call f _ h4).ok
    exact .one (ds_setC n1 n2 n3 n4 F hr (gl_of g h6) hm hk hb (q_at g h8).pe (q_at g h9).pe (q_ar g h10) h2 h3 (dbg_of h5).1 (starL h7))
  · cases h
theorem t_setD {i : Nat} {xs : List Stmt} (g : Good X c Φ cs) (h : cSetD i a e c xs = true) : SndS X Φ cs (.setD i a e) xs := by
  unfold cSetD at h
  split at h
  · simp only [Bool.and_eq_true] at h
    obtain ⟨h1, h3, h4⟩ := h
    obtain ⟨n1, n2, n3, n4⟩ := nm_of g h1
    exact .one (ds_setD g.units n1 n2 n3 n4 (q_at g h3).pe (q_at g h4).pe swp_sub)
  · cases h
theorem t_setR {i : Nat} {xs : List Stmt} (g : Good X c Φ cs) (h : cSetR i a b e c xs = true) : SndS X Φ cs (.setR i a b e) xs := by
  unfold cSetR at h
  split at h
  · simp only [Bool.and_eq_true] at h
    obtain ⟨h1, h2, h3, h4, h5, h6⟩ := h
    obtain ⟨n1, n2, n3, n4⟩ := nm_of g h1
    exact .one (ds_setR n1 n2 n3 n4 (q_at g h4).pe (q_at g h5).pe (q_at g h6).pe (ix_of h2) h3 sws_sub swd_sub)
  · cases h
theorem t_ret {xs : List Stmt} (g : Good X c Φ cs) (h : cRet e c xs = true) : SndS X Φ cs (.ret e) xs := by
  unfold cRet at h
  split at h
  · exact .one (ds_ret (q_at g h).pe)
  · cases h
theorem t_retN {xs : List Stmt} (h : cRetN c xs = true) : SndS X Φ cs .retN xs := by
  unfold cRetN at h
  split at h
  · exact .one ds_retN
  · cases h
theorem rng_of {it a : E} (hr : isRng it = true) (g : Good X c Φ cs) {x tg : Expr} (h : chk it c 1 [x] = true) : PI X tg x (eIR X.K fun ρ => itemsO (ev Φ cs it ρ)) := by
  cases it <;> first | (cases hr; done) | skip
  · simp only [chk] at h
    unfold cIt1 at h
    split at h
    · rename_i heq
      cases heq
      simp only [Bool.and_eq_true, beq_iff_eq] at h
      obtain ⟨_, rfl, h2, h3, h4⟩ := h
      exact dr_rng1 rfl (gl_of g h2) (g.blt _ mem_range) (q_at g h4).pe (star1 h3 _ _)
    · cases h
  · simp only [chk] at h
    unfold cIt2 at h
    split at h
    · rename_i heq
      cases heq
      simp only [Bool.and_eq_true, beq_iff_eq] at h
      obtain ⟨_, rfl, h2, h3, h3', h4, h5⟩ := h
      exact dr_rng2 rfl (gl_of g h2) (g.blt _ mem_range) (q_at g h4).pe (q_at g h5).pe (star1 h3 _ _) (star1 h3' _ _)
    · cases h
/-- THE RULE for statements -/
theorem snd_stm (m : S) : IHS Φ cs m := by
  induction m with
  | skip =>
    intro X c xs g h
    cases xs with
    | nil => exact ⟨(fun z => nomatch z), ds_nil⟩
    | cons _ _ => cases h
  | seq a b ia ib =>
    intro X c xs g h
    simp only [chkS, Bool.and_eq_true] at h
    obtain ⟨h1, h2⟩ := h
    unfold cSeq at h2
    split at h2
    · rw [Bool.and_eq_true] at h2
      obtain ⟨s, hs, p⟩ := (ia g h2.1).ps h1
      cases hs
      exact ⟨(fun z => nomatch z), ds_cons p (ib g h2.2).pss⟩
    · cases h2
  | asg i e =>
    intro X c xs g h
    have h' := t_asg (k := .val) g h
    exact ⟨h'.ps, h'.pss⟩
  | own k i e => exact fun g h => t_asg g h
  | ownR i vs j it => exact fun g h => t_ownR g h
  | frz i j => exact fun g h => t_frz g h
  | par i j ka kb a b => exact fun g h => t_par g h
  | unp tg e => exact fun g h => t_unp g h
  | app i e => exact fun g h => t_app g h
  | appF i j => exact fun g h => t_appF g h
  | appP i j k => exact fun g h => t_appP g h
  | setL i k e => exact fun g h => t_setL g h
  | fz i m im =>
    intro X c xs g h
    simp only [chkS] at h
    have p := im g h
    refine ⟨fun z => ?_, PSs.imp (fun D σ H q => thaw_pre (X := X) q) p.pss⟩
    obtain ⟨s, e, ps⟩ := p.ps z
    exact ⟨s, e, PS.imp (fun D σ H q => thaw_pre (X := X) q) ps⟩
  | setC i k f k2 r => exact fun g h => t_setC g h
  | setD i k e => exact fun g h => t_setD g h
  | setR i k k2 e => exact fun g h => t_setR g h
  | ite t a b ia ib =>
    intro X c xs g h
    simp only [chkS] at h
    unfold cIte at h
    split at h
    · simp only [Bool.and_eq_true] at h
      obtain ⟨h1, h2, h3, h4⟩ := h
      exact .one (ds_ite ((q_at g h2).pt h1) (ia g h3).pss (ib g h4).pss)
    · cases h
  | for_ tg pair it body ib =>
    intro X c xs g h
    simp only [chkS] at h
    unfold cFor at h
    split at h
    · simp only [Bool.and_eq_true, Bool.or_eq_true, Bool.not_eq_true'] at h
      obtain ⟨h1, h2, h3, h4, h5⟩ := h
      obtain ⟨t, pg, ht⟩ := tgv_of g h1
      refine .one ?_
      cases hr : isRng it with
      | true =>
        refine PS.imp (fun D σ H ⟨B0, H0, st, r, dm, sr, hx, p⟩ => ⟨B0, H0, st, r, dm, sr, ?_, p⟩) (ds_forR g.xe g.calm (rng_of (a := it) hr g h4) pg ht (ib g h5).pss (fold_of h2))
        rw [← hx]
        show _ = onL (itemsS Φ cs it st) _
        unfold itemsS
        rw [hr]
        rfl
      | false =>
        refine PS.imp (fun D σ H ⟨B0, H0, st, r, dm, sr, hx, p⟩ => ⟨B0, H0, st, r, dm, sr, ?_, p⟩) (ds_for g.xe g.calm (q_it g h4 fun z => by
          rcases h3 with h3 | h3
          · rw [z] at h3
            cases h3
          · exact h3) pg ht (ib g h5).pss (fold_of h2))
        · rw [← hx]
          show _ = onL (itemsS Φ cs it st) _
          unfold itemsS
          rw [hr]
          rfl
    · cases h
  | ret e => exact fun g h => t_ret g h
  | retN => exact fun g h => t_retN h
end
end
end DL
/-! DL13: a def by data. -/
namespace DL
open PySem PySem.Spec PyProof.Rows L2
def startS (N : Nat) (ds : List D) : State := ds.map Slot.val ++ List.replicate (N - ds.length) Slot.und
def endR : Option Rs → Option D
  | some (.rt d) => some d
  | some (.nx _) => some .non
  | none => none
def runF (Φ : Nat → List D → Option D) (cs : Nat → Int) (m : S) (N np : Nat) (ds : List D) : Option D := if ds.length = np then endR (ex Φ cs m (startS N ds)) else none
def phi (l : List (List D → Option D)) (i : Nat) : List D → Option D := l.getD i fun _ => none
def csL (l : List Int) (i : Nat) : Int := l.getD i 0
structure FD (P : Program) (w : World) (K : PySem.W.Frag) (mg : Str → Option Value) (base : Heap) (k : Nat) (x : Str) (g : List D → Option D) : Prop where
  ok : ∃ (f : Addr) (fd : FuncData) (ps : List Str), FnOk P w K mg base CX0 k f fd ps (spD K g) ∧ mg x = some (.ref f) ∧ PySem.W.keepIn K (.ref f) = true ∧ Binds K fd ps []
section
variable {P : Program} {w : World} {K : PySem.W.Frag} {mg : Str → Option Value} {base : Heap} {k : Nat} {x : Str} {g : List D → Option D}
theorem FD.mono (F : FD P w K mg base k x g) {j : Nat} (h : k ≤ j) : FD P w K mg base j x g := by
  obtain ⟨f, fd, ps, a, b, c, d⟩ := F.ok
  exact ⟨f, fd, ps, a.mono h, b, c, d⟩
theorem FD.callee {A : Around} (F : FD P w K mg base k x g) (r : Room k A) : Callee P w K mg base A x g := by
  obtain ⟨f, fd, ps, a, b, c, d⟩ := F.ok
  exact ⟨k, f, fd, ps, a, r, b, c, d⟩
/-- the callees of a def, in the order of its list -/
inductive FDs (P : Program) (w : World) (K : PySem.W.Frag) (mg : Str → Option Value) (base : Heap) (k : Nat) : List Str → List (List D → Option D) → Prop where
  | nil : FDs P w K mg base k [] []
  | cons {x : Str} {g : List D → Option D} {xs : List Str} {gs : List (List D → Option D)} {j : Nat} : FD P w K mg base j x g → j ≤ k → FDs P w K mg base k xs gs → FDs P w K mg base k (x :: xs) (g :: gs)
theorem FDs.get : ∀ {xs : List Str} {gs : List (List D → Option D)}, FDs P w K mg base k xs gs → ∀ (i : Nat) (x : Str), xs[i]? = some x → FD P w K mg base k x (phi gs i)
  | _, _, .nil, i, x, h => by simp at h
  | _, _, .cons (g := g) (gs := gs) a hj r, i, x, h => by
    cases i with
    | zero =>
      cases h
      exact a.mono hj
    | succ i => exact r.get i x h
/-- what the module's names hold -/
structure Top (K : PySem.W.Frag) (mg : Str → Option Value) (cons : List Str) (cl : List Int) : Prop where
  blt : ∀ x ∈ bltN, mg x = none
  con : ∀ j x, cons[j]? = some x → ∃ t, mg x = some (.int (csL cl j) t)
def ccOf (N : List Str) (sc : Scope) (fns cons : List Str) : CC := ⟨N, sc, fun _ => true, fns, cons⟩
theorem start_rp {B : Addr → Prop} {H : Hp} {ds : List D} {vs : List V} : ∀ {N : List Str}, RpL K B H ds vs → ds.length ≤ N.length → SR K B H (fun _ => []) (startS N.length ds) (L2.start N vs) H := fun {N} r hl => by
  have hlen : (startS N.length ds).length = N.length := by
    unfold startS
    rw [List.length_append, List.length_map, List.length_replicate]
    omega
  have hvl := r.length
  have hlen2 : (L2.start N vs).length = N.length := by
    unfold L2.start
    rw [List.length_append, List.length_map, List.length_replicate]
    omega
  refine ⟨Ex.refl H, by rw [hlen, hlen2], fun i s o h1 h2 => ?_, (fun i p hp => nomatch hp), fun i => List.nodup_nil, (fun i j p hp => nomatch hp), fun i _ => rfl⟩
  unfold startS at h1
  unfold L2.start at h2
  by_cases hi : i < ds.length
  · rw [List.getElem?_append_left (by rw [List.length_map]; exact hi), List.getElem?_map] at h1
    rw [List.getElem?_append_left (by rw [List.length_map]; omega), List.getElem?_map] at h2
    rw [List.getElem?_eq_getElem hi] at h1
    rw [List.getElem?_eq_getElem (by omega)] at h2
    cases h1
    cases h2
    obtain ⟨v, hv, rv⟩ := r.get (List.getElem?_eq_getElem hi)
    rw [List.getElem?_eq_getElem (by omega)] at hv
    cases hv
    refine ⟨rfl, _, rfl, rv.mono (ExB.refl H) fun a z => .inl ?_⟩
    rcases z with z | ⟨_, z⟩
    · exact z
    · cases z
  · rw [List.getElem?_append_right (by rw [List.length_map]; omega), List.getElem?_replicate] at h1
    split at h1
    · cases h1
      rfl
    · cases h1
/-- THE RULE for a def -/
theorem fn_mk {qual : Str} {st : Stmt} {f : Addr} {fd : FuncData} {N ps : List Str} {fns cons : List Str} {gs : List (List D → Option D)} {cl : List Int} {m : S} (F : Fun K x qual st f fd) (S : FnScope N ps (defScope st)) (T : Top K mg cons cl) (C : FDs P w K mg base k fns gs)
    (hck : chkS m (ccOf N (defScope st) fns cons) (defBody st) = true) : FnOk P w K mg base CX0 (k + 1) f fd ps (spD K (runF (phi gs) (csL cl) m N.length ps.length)) := by
  refine F.ok S (fun vs H Q E ⟨B, ds, d, dm, r, h, q⟩ => ?_) (fun cdv A outer s H vs Q E hr ⟨B, ds, d, dm, r, h, q⟩ => ?_)
  · unfold runF at h
    split at h
    · rw [← r.length]
      assumption
    · cases h
  · unfold runF at h
    split at h
    · rename_i hl
      have G : Good (cxOf CX0 P w K mg base N qual (defScope st) f cdv A outer s H E).nox (ccOf N (defScope st) fns cons) (phi gs) (csL cl) := {
        N := rfl
        nd := S.nd
        sc := rfl
        ok := fun _ _ => .inl rfl
        calm := rfl
        xe := rfl
        units := by
          have := hr.un
          show (A.deeper (envOfC qual (defScope st) s.heap.objs.size f cdv)).units + 65 < cLine
          omega
        blt := T.blt
        call := fun i y hy => (C.get i y hy).callee hr
        con := T.con }
      refine ⟨_, (snd_stm m G hck).pss, ?_⟩
      have hpl : ps.length ≤ N.length := by
        have := congrArg List.length S.pre
        rw [List.length_take] at this
        omega
      cases e : ex (phi gs) (csL cl) m (startS N.length ds) with
      | none =>
        rw [e] at h
        cases h
      | some r1 =>
        rw [e] at h
        refine ⟨B, H, startS N.length ds, r1, dm, ⟨_, start_rp r (by omega)⟩, e, ?_⟩
        cases r1 with
        | nx st1 =>
          cases h
          exact fun σ H1 ⟨fp, sr⟩ => q .non H1 sr.ex .non
        | rt d1 =>
          cases h
          exact fun v H1 e1 rv => q v H1 e1 rv
    · cases h
theorem fd_mk {qual : Str} {st : Stmt} {f : Addr} {fd : FuncData} {N ps : List Str} {fns cons : List Str} {gs : List (List D → Option D)} {cl : List Int} {m : S} (F : Fun K x qual st f fd) (hm : mg x = some (.ref f)) (hb : Binds K fd ps []) (S : FnScope N ps (defScope st)) (T : Top K mg cons cl) (C : FDs P w K mg base k fns gs)
    (hck : chkS m (ccOf N (defScope st) fns cons) (defBody st) = true) : FD P w K mg base (k + 1) x (runF (phi gs) (csL cl) m N.length ps.length) := ⟨f, fd, ps, fn_mk F S T C hck, hm, F.kp, hb⟩
end
/-- a def that calls itself, so many times one within the other -/
def recF (step : (List D → Option D) → List D → Option D) : Nat → List D → Option D
  | 0 => fun _ => none
  | t + 1 => step (recF step t)
section
variable {P : Program} {w : World} {K : PySem.W.Frag} {mg : Str → Option Value} {base : Heap} {k : Nat} {x : Str}
theorem fd_rec {qual : Str} {st : Stmt} {f : Addr} {fd : FuncData} {N ps : List Str} {fns cons : List Str} {gs : (List D → Option D) → List (List D → Option D)} {cl : List Int} {m : S} (F : Fun K x qual st f fd) (hm : mg x = some (.ref f)) (hb : Binds K fd ps []) (S : FnScope N ps (defScope st)) (T : Top K mg cons cl)
    (C : ∀ j g, k ≤ j → FD P w K mg base j x g → FDs P w K mg base j fns (gs g)) (hck : chkS m (ccOf N (defScope st) fns cons) (defBody st) = true) : ∀ t, FD P w K mg base (k + 1 + t) x (recF (fun g => runF (phi (gs g)) (csL cl) m N.length ps.length) t)
  | 0 => by
    have z : ∀ (vs : List V) (H : Hp) (Q : VK) (E : XK), ¬ spD K (fun _ => none) vs H Q E := fun vs H Q E ⟨B, ds, d, dm, r, h, q⟩ => nomatch h
    have ok : FnOk P w K mg base CX0 (k + 1) f fd ps (spD K (fun _ => none)) := F.ok S (fun vs H Q E h => absurd h (z vs H Q E)) (fun cdv A outer s H vs Q E hr h => absurd h (z vs H Q E))
    exact ⟨f, fd, ps, ok, hm, F.kp, hb⟩
  | t + 1 => fd_mk F hm hb S T (C (k + 1 + t) _ (by omega) (fd_rec F hm hb S T C hck t)) hck
end
/-- the law's own promise -/
def spLaw (K : PySem.W.Frag) : Sp := fun vs H Q _ => ∃ (a : Addr) (ns : List Int), vs = [.ref a] ∧ SqL K H a (ns.map V.int) ∧ ns.length ≤ 63 ∧ ∀ H', Q (.bl true) H'
theorem law_imp {P : Program} {w : World} {K : PySem.W.Frag} {mg : Str → Option Value} {base : Heap} {k : Nat} {f : Addr} {fd : FuncData} {ps : List Str} {g : List D → Option D} (hg : ∀ ns : List Int, ns.length ≤ 63 → g [.scr ns] = some (.bl true)) (F : FnOk P w K mg base CX0 k f fd ps (spD K g)) : FnOk P w K mg base CX0 k f fd ps (spLaw K) :=
  F.imp fun vs H Q E ⟨a, ns, e, hS, hl, q⟩ => by
    subst e
    refine ⟨fun _ => False, [.scr ns], .bl true, (fun a h => h.elim), .cons (.scr (.of hS fun h => h)) .nil, hg ns hl, fun v H' e r => ?_⟩
    cases r
    exact q H'
theorem walk {k : Nat} {l : PySem.W.OpenLaw} {q : Program} {loose : List Str} {XP : (Str → Option Value) → Heap → Prop} {YP : World → Heap → Prop} {d : DefRec} {K : Params → PySem.W.Frag} (hn : l.most = some 63) (hdf : d.params.defaults = []) (hk : Room k callerA)
    (hY : ∀ (w : World) (h : Heap), YP w h → (K w.params).In h)
    (F : ∀ (w : World) (mg : Str → Option Value) (fa : Addr) (h : Heap), (K w.params).In h → h.Ns mainGlobals mg → mg d.name = some (.ref fa) →
      ∃ fd : FuncData, (∀ (s : Shared) (u : Value), BindsTo s fd ⟨[u], []⟩ [("script", u)]) ∧ ∀ base : Heap, (K w.params).In base → base.Ns mainGlobals mg → FnOk l.prog w (K w.params) mg base CX0 k fa fd ["script"] (spLaw (K w.params))) :
    PySem.W.WalkO q loose XP YP l.row.toRowW d [] (fun f vs => PySem.call f vs) :=
  L2.walk_of (n := 63) (k := k) (x := "script") (CX := fun _ => CX0) (sp := fun w => spLaw (K w.params)) hn (by decide) hdf hk hY F (fun _ _ a ns hl _ hS => ⟨a, ns, rfl, hS, hl, fun _ => rfl⟩) fun _ _ _ _ _ z => z
end DL
/-! PWM: the defs by data. -/
namespace PW
open DL
abbrev cs : Nat → Int := csL [32]
/-- is_integer: slots 0=value 1=low 2=high -/
def m_is_integer : DL.S := (.seq (.ret (.an (.isi (.var 0) "int") (.an (.nt (.isi (.var 0) "bool")) (.chain .le .le (.var 1) (.var 0) (.var 2))))) .skip)
def G_is_integer : List D → Option D := runF (phi []) cs m_is_integer 3 3
/-- is_table: slots 0=value 1=row 2=entry 3=at -/
def m_is_table : DL.S := (.seq (.ite (.orr (.nt (.isi (.var 0) "tuple")) (.nt (.chain .le .le (.int 1) (.blt .len (.cons (.var 0) .nil)) (.int 5)))) (.seq (.ret (.bl false)) .skip) .skip) (.seq (.ite (.nt (.blt .all (.cons (.comp [3, 1] [3, 1] true (.enm (.var 0)) (.bl true) (.an (.isi (.var 1) "tuple") (.cmp .eq (.blt .len (.cons (.var 1) .nil)) (.bin .sub (.blt .len (.cons (.var 0) .nil)) (.var 3))))) .nil))) (.seq (.ret (.bl false)) .skip) .skip) (.seq (.ret (.blt .all (.cons (.comp2 [1, 2] 1 2 (.var 0) (.var 1) (.bl true) (.orr (.cmp .is (.var 2) .non) (.call 0 (.cons (.var 2) (.cons (.neg (.int 999)) (.cons (.int 999) .nil)))))) .nil))) .skip)))
def G_is_table : List D → Option D := runF (phi [G_is_integer]) cs m_is_table 4 1
/-- is_whole: slots 0=table 1=row 2=entry -/
def m_is_whole : DL.S := (.seq (.ret (.blt .all (.cons (.comp2 [1, 2] 1 2 (.var 0) (.var 1) (.bl true) (.cmp .isn (.var 2) .non)) .nil))) .skip)
def G_is_whole : List D → Option D := runF (phi []) cs m_is_whole 3 1
/-- entry_of: slots 0=table 1=one 2=other 3=low 4=high -/
def m_entry_of : DL.S := (.seq (.par 3 4 .val .val (.blt .min (.cons (.lst (.cons (.var 1) (.cons (.var 2) .nil))) .nil)) (.blt .max (.cons (.lst (.cons (.var 1) (.cons (.var 2) .nil))) .nil))) (.seq (.ret (.ix (.ix (.var 0) (.var 3)) (.bin .sub (.bin .sub (.var 4) (.var 3)) (.int 1)))) .skip))
def G_entry_of : List D → Option D := runF (phi []) cs m_entry_of 5 3
/-- _law_cell: slots 0=script 1=index -/
def m__law_cell : DL.S := (.seq (.ite (.cmp .lt (.var 1) (.blt .len (.cons (.var 0) .nil))) (.seq (.ret (.ix (.var 0) (.var 1))) .skip) .skip) (.seq (.ite (.cmp .eq (.blt .len (.cons (.var 0) .nil)) (.int 0)) (.seq (.ret (.bin .add (.bin .mul (.int 7919) (.var 1)) (.int 101))) .skip) .skip) (.seq (.ret (.bin .add (.bin .mod (.ix (.var 0) (.bin .mod (.var 1) (.blt .len (.cons (.var 0) .nil)))) (.int 1000003)) (.bin .mul (.int 7919) (.var 1)))) .skip)))
def G__law_cell : List D → Option D := runF (phi []) cs m__law_cell 2 2
/-- _law_digits: slots 0=script 1=index 2=count 3=base 4=primes 5=cell 6=rest 7=digits 8=k 9=mixed -/
def b__law_digits_0 : DL.S := (.seq (.asg 9 (.bin .mul (.bin .mod (.var 5) (.ix (.var 4) (.bin .mod (.var 8) (.int 8)))) (.bin .add (.int 48271) (.bin .mul (.bin .mul (.int 2) (.var 8)) (.var 8))))) (.seq (.asg 9 (.bin .add (.bin .add (.var 9) (.bin .mul (.bin .mul (.int 7919) (.bin .add (.var 8) (.int 1))) (.bin .add (.var 8) (.int 1)))) (.bin .mul (.int 104729) (.var 1)))) (.seq (.asg 9 (.bin .mod (.var 9) (.ix (.var 4) (.bin .mod (.bin .add (.bin .mul (.int 3) (.var 8)) (.var 1)) (.int 8))))) (.seq (.asg 9 (.bin .mod (.bin .mul (.bin .mul (.var 9) (.var 9)) (.var 9)) (.ix (.var 4) (.bin .mod (.bin .add (.var 8) (.int 5)) (.int 8))))) (.seq (.ite (.cmp .gt (.var 6) (.int 0)) (.seq (.asg 9 (.var 6)) .skip) .skip) (.seq (.app 7 (.bin .mod (.var 9) (.var 3))) (.seq (.asg 6 (.bin .fdiv (.var 6) (.var 3))) .skip)))))))
def m__law_digits : DL.S := (.seq (.asg 4 (.tup (.cons (.int 2147483647) (.cons (.int 2147483629) (.cons (.int 2147483587) (.cons (.int 2147483579) (.cons (.int 2147483563) (.cons (.int 2147483549) (.cons (.int 2147483543) (.cons (.int 2147483497) .nil)))))))))) (.seq (.asg 5 (.call 0 (.cons (.var 0) (.cons (.var 1) .nil)))) (.seq (.asg 6 (.ife (.cmp .ge (.var 5) (.bin .pow (.int 10) (.int 18))) (.var 5) (.int 0))) (.seq (.own .lst 7 (.lst .nil)) (.seq (.for_ [8] false (.rng1 (.var 2)) b__law_digits_0) (.seq (.ret (.var 7)) .skip))))))
def G__law_digits : List D → Option D := runF (phi [G__law_cell]) cs m__law_digits 10 4
/-- _law_is_integer: slots 0=value 1=low 2=high -/
def m__law_is_integer : DL.S := (.seq (.ret (.an (.isi (.var 0) "int") (.an (.nt (.isi (.var 0) "bool")) (.chain .le .le (.var 1) (.var 0) (.var 2))))) .skip)
def G__law_is_integer : List D → Option D := runF (phi []) cs m__law_is_integer 3 3
/-- _law_same_bool: slots 0=result 1=expected -/
def m__law_same_bool : DL.S := (.seq (.ret (.an (.isi (.var 0) "bool") (.cmp .eq (.var 0) (.var 1)))) .skip)
def G__law_same_bool : List D → Option D := runF (phi []) cs m__law_same_bool 2 2
/-- _law_paths: slots 0=value 1=paths 2=index 3=part 4=path -/
def b__law_paths_0 : DL.S := (.seq (.asg 1 (.bin .add (.var 1) (.comp [4] [4] false (.call 0 (.cons (.var 3) .nil)) (.bl true) (.bin .add (.tup (.cons (.var 2) .nil)) (.var 4))))) .skip)
def m__law_paths : DL.S := (.seq (.asg 1 (.lst (.cons (.tup .nil) .nil))) (.seq (.ite (.isi2 (.var 0) "list" "tuple") (.seq (.for_ [2, 3] true (.enm (.var 0)) b__law_paths_0) .skip) .skip) (.seq (.ret (.var 1)) .skip)))
def G__law_paths : List D → Option D := recF (fun g => runF (phi [g]) cs m__law_paths 5 1) 8
/-- _law_other_value: slots 0=value 1=digits 2=options -/
def m__law_other_value : DL.S := (.seq (.asg 2 (.lst (.cons .non (.cons (.bl true) (.cons (.bl false) (.cons (.int 7) (.cons (.bin .sub (.int 0) (.int 1)) (.cons (.bin .pow (.int 10) (.int 39)) (.cons (.str "0") (.cons (.str "") (.cons (.tup .nil) (.cons (.lst .nil) (.cons (.tup (.cons (.var 0) .nil)) (.cons (.lst (.cons (.var 0) .nil)) (.cons (.tup (.cons (.int 0) .nil)) (.cons (.tup (.cons (.int 1) (.cons (.int 0) .nil))) (.cons (.int 1) (.cons (.int 0) .nil)))))))))))))))))) (.seq (.ite (.an (.isi (.var 0) "int") (.nt (.isi (.var 0) "bool"))) (.seq (.asg 2 (.bin .add (.lst (.cons (.bin .add (.var 0) (.int 1)) (.cons (.bin .sub (.var 0) (.int 1)) (.cons (.blt .toB (.cons (.var 0) .nil)) (.cons (.bin .add (.var 0) (.int 1)) (.cons (.bin .sub (.var 0) (.int 1)) (.cons (.blt .toB (.cons (.var 0) .nil)) .nil))))))) (.var 2))) .skip) .skip) (.seq (.ite (.isi2 (.var 0) "list" "tuple") (.seq (.asg 2 (.bin .add (.lst (.cons (.blt .toL (.cons (.var 0) .nil)) (.cons (.blt .toT (.cons (.var 0) .nil)) (.cons (.blt .toT (.cons (.back (.var 0)) .nil)) (.cons (.blt .toL (.cons (.var 0) .nil)) .nil))))) (.var 2))) .skip) .skip) (.seq (.ret (.ix (.var 2) (.bin .mod (.ix (.var 1) (.int 1)) (.blt .len (.cons (.var 2) .nil))))) .skip))))
def G__law_other_value : List D → Option D := runF (phi []) cs m__law_other_value 3 2
/-- _law_moved_item: slots 0=items 1=index 2=digits 3=target 4=rest -/
def m__law_moved_item : DL.S := (.seq (.asg 3 (.bin .mod (.ix (.var 2) (.int 2)) (.blt .len (.cons (.var 0) .nil)))) (.seq (.ite (.cmp .eq (.bin .mod (.ix (.var 2) (.int 0)) (.int 3)) (.int 0)) (.seq (.ret (.bin .add (.slB (.var 0) (.var 1)) (.slA (.var 0) (.bin .add (.var 1) (.int 1))))) .skip) .skip) (.seq (.ite (.cmp .eq (.bin .mod (.ix (.var 2) (.int 0)) (.int 3)) (.int 1)) (.seq (.ret (.bin .add (.bin .add (.slB (.var 0) (.var 3)) (.lst (.cons (.ix (.var 0) (.var 1)) .nil))) (.slA (.var 0) (.var 3)))) .skip) .skip) (.seq (.asg 4 (.bin .add (.slB (.var 0) (.var 1)) (.slA (.var 0) (.bin .add (.var 1) (.int 1))))) (.seq (.ret (.bin .add (.bin .add (.slB (.var 4) (.var 3)) (.lst (.cons (.ix (.var 0) (.var 1)) .nil))) (.slA (.var 4) (.var 3)))) .skip)))))
def G__law_moved_item : List D → Option D := runF (phi []) cs m__law_moved_item 5 3
/-- _law_change_at: slots 0=value 1=path 2=digits 3=items -/
def m__law_change_at : DL.S := (.seq (.ite (.cmp .eq (.var 1) (.tup .nil)) (.seq (.ret (.call 0 (.cons (.var 0) (.cons (.var 2) .nil)))) .skip) .skip) (.seq (.own .lst 3 (.blt .toL (.cons (.var 0) .nil))) (.seq (.ite (.an (.cmp .eq (.blt .len (.cons (.var 1) .nil)) (.int 1)) (.cmp .eq (.bin .mod (.ix (.var 2) (.int 3)) (.int 2)) (.int 0))) (.seq (.fz 3 (.asg 3 (.call 1 (.cons (.var 3) (.cons (.ix (.var 1) (.int 0)) (.cons (.var 2) .nil)))))) .skip) (.seq (.setC 3 (.ix (.var 1) (.int 0)) 2 (.ix (.var 1) (.int 0)) (.cons (.slA (.var 1) (.int 1)) (.cons (.var 2) .nil))) .skip)) (.seq (.ret (.ife (.isi (.var 0) "list") (.var 3) (.blt .toT (.cons (.var 3) .nil)))) .skip))))
def G__law_change_at : List D → Option D := recF (fun g => runF (phi [G__law_other_value, G__law_moved_item, g]) cs m__law_change_at 4 3) 8
/-- _law_mutated: slots 0=value 1=digits 2=paths -/
def m__law_mutated : DL.S := (.seq (.asg 2 (.call 0 (.cons (.var 0) .nil))) (.seq (.ret (.call 1 (.cons (.var 0) (.cons (.ix (.var 2) (.bin .mod (.ix (.var 1) (.int 4)) (.blt .len (.cons (.var 2) .nil)))) (.cons (.var 1) .nil))))) .skip))
def G__law_mutated : List D → Option D := runF (phi [G__law_paths, G__law_change_at]) cs m__law_mutated 3 2
/-- _law_any_value: slots 0=digits 1=depth 2=choice 3=number 4=parts 5=k -/
def m__law_any_value : DL.S := (.seq (.asg 2 (.bin .mod (.ix (.var 0) (.var 1)) (.int 12))) (.seq (.asg 3 (.ix (.lst (.cons (.bin .sub (.bin .mod (.ix (.var 0) (.bin .add (.var 1) (.int 1))) (.int 12)) (.int 2)) (.cons (.bin .sub (.int 0) (.bin .pow (.int 10) (.int 39))) (.cons (.bin .pow (.int 10) (.int 39)) .nil)))) (.bin .mod (.ix (.var 0) (.bin .add (.var 1) (.int 2))) (.int 3)))) (.seq (.ite (.orr (.cmp .lt (.var 2) (.int 4)) (.cmp .gt (.var 1) (.int 3))) (.seq (.ret (.var 3)) .skip) .skip) (.seq (.ite (.cmp .lt (.var 2) (.int 7)) (.seq (.ret (.ix (.lst (.cons (.bl true) (.cons (.bl false) (.cons .non .nil)))) (.bin .sub (.var 2) (.int 4)))) .skip) .skip) (.seq (.ite (.cmp .lt (.var 2) (.int 9)) (.seq (.ret (.ix (.lst (.cons (.str "") (.cons (.str "0") (.cons (.str "a") (.cons (.str "ax") (.cons (.str "3") (.cons (.str "none") (.cons (.str "A") (.cons (.str "~") .nil))))))))) (.bin .mod (.ix (.var 0) (.bin .add (.var 1) (.int 3))) (.int 8)))) .skip) .skip) (.seq (.asg 4 (.comp [5] [5] false (.rng1 (.bin .mod (.ix (.var 0) (.bin .add (.var 1) (.int 4))) (.int 4))) (.bl true) (.call 0 (.cons (.bin .add (.slA (.var 0) (.var 5)) (.slB (.var 0) (.var 5))) (.cons (.bin .add (.var 1) (.int 1)) .nil))))) (.seq (.ret (.ife (.cmp .eq (.var 2) (.int 9)) (.var 4) (.blt .toT (.cons (.var 4) .nil)))) .skip)))))))
def G__law_any_value : List D → Option D := recF (fun g => runF (phi [g]) cs m__law_any_value 6 2) 8
/-- _law_weights: slots 0=digits 1=many 2=unit 3=weights 4=k 5=digit -/
def m__law_weights : DL.S := (.seq (.asg 2 (.bin .add (.int 1) (.bin .mod (.ix (.var 0) (.int 0)) (.int 6)))) (.seq (.asg 3 (.comp [4] [4] false (.rng1 (.var 1)) (.bl true) (.bin .sub (.bin .mod (.ix (.var 0) (.bin .add (.int 1) (.var 4))) (.int 300)) (.int 60)))) (.seq (.ite (.cmp .eq (.bin .mod (.ix (.var 0) (.int 7)) (.int 3)) (.int 0)) (.seq (.asg 3 (.comp [5] [5] false (.slAB (.var 0) (.int 1) (.bin .add (.int 1) (.var 1))) (.bl true) (.bin .add (.ix (.var 3) (.int 0)) (.bin .mod (.var 5) (.int 9))))) .skip) .skip) (.seq (.ret (.tup (.cons (.var 2) (.cons (.blt .toT (.cons (.var 3) .nil)) .nil)))) .skip))))
def G__law_weights : List D → Option D := runF (phi []) cs m__law_weights 6 2
/-- _law_table: slots 0=unit 1=weights 2=rows 3=one 4=more -/
def b__law_table_0 : DL.S := (.seq (.app 2 (.blt .toT (.cons (.comp [4] [4] false (.slA (.var 1) (.bin .add (.var 3) (.int 1))) (.bl true) (.bin .fdiv (.bin .add (.ix (.var 1) (.var 3)) (.var 4)) (.var 0))) .nil))) .skip)
def m__law_table : DL.S := (.seq (.own .lst 2 (.lst .nil)) (.seq (.for_ [3] false (.rng1 (.bin .sub (.blt .len (.cons (.var 1) .nil)) (.int 1))) b__law_table_0) (.seq (.ret (.blt .toT (.cons (.var 2) .nil))) .skip)))
def G__law_table : List D → Option D := runF (phi []) cs m__law_table 5 2
/-- _law_entry: slots 0=table 1=one 2=other -/
def m__law_entry : DL.S := (.seq (.ite (.cmp .eq (.var 1) (.var 2)) (.seq (.ret .non) .skip) .skip) (.seq (.ret (.ife (.cmp .lt (.var 1) (.var 2)) (.ix (.ix (.var 0) (.var 1)) (.bin .sub (.bin .sub (.var 2) (.var 1)) (.int 1))) (.ix (.ix (.var 0) (.var 2)) (.bin .sub (.bin .sub (.var 1) (.var 2)) (.int 1))))) .skip))
def G__law_entry : List D → Option D := runF (phi []) cs m__law_entry 3 3
/-- _law_hidden: slots 0=table 1=digits 2=often 3=rows 4=k 5=row 6=line 7=entry -/
def b__law_hidden_0 : DL.S := (.seq (.app 6 (.ife (.cmp .eq (.bin .mod (.ix (.var 1) (.bin .mod (.var 4) (.blt .len (.cons (.var 1) .nil)))) (.var 2)) (.int 0)) .non (.var 7))) (.seq (.asg 4 (.bin .add (.var 4) (.int 1))) .skip))
def b__law_hidden_1 : DL.S := (.seq (.own .lst 6 (.lst .nil)) (.seq (.for_ [7] false (.var 5) b__law_hidden_0) (.seq (.app 3 (.blt .toT (.cons (.var 6) .nil))) .skip)))
def m__law_hidden : DL.S := (.seq (.par 3 4 .lst .val (.lst .nil) (.int 0)) (.seq (.for_ [5] false (.var 0) b__law_hidden_1) (.seq (.ret (.blt .toT (.cons (.var 3) .nil))) .skip)))
def G__law_hidden : List D → Option D := runF (phi []) cs m__law_hidden 8 3
/-- _law_is_table: slots 0=value 1=at 2=row 3=entry -/
def b__law_is_table_0 : DL.S := (.seq (.ite (.orr (.nt (.isi (.var 2) "tuple")) (.cmp .ne (.blt .len (.cons (.var 2) .nil)) (.bin .sub (.blt .len (.cons (.var 0) .nil)) (.var 1)))) (.seq (.ret (.bl false)) .skip) .skip) (.seq (.ite (.cmp .ne (.comp [3] [3] false (.var 2) (.an (.cmp .isn (.var 3) .non) (.nt (.call 0 (.cons (.var 3) (.cons (.neg (.int 999)) (.cons (.int 999) .nil)))))) (.var 3)) (.lst .nil)) (.seq (.ret (.bl false)) .skip) .skip) .skip))
def m__law_is_table : DL.S := (.seq (.ite (.orr (.nt (.isi (.var 0) "tuple")) (.nt (.chain .le .le (.int 1) (.blt .len (.cons (.var 0) .nil)) (.int 5)))) (.seq (.ret (.bl false)) .skip) .skip) (.seq (.for_ [1, 2] true (.enm (.var 0)) b__law_is_table_0) (.seq (.ret (.bl true)) .skip)))
def G__law_is_table : List D → Option D := runF (phi [G__law_is_integer]) cs m__law_is_table 4 1
/-- law_k01: slots 0=script 1=values 2=index 3=digits 4=unit 5=weights 6=table 7=hidden 8=k 9=value 10=missing 11=row 12=a 13=one 14=b 15=entry -/
def b_law_k01_0 : DL.S := (.seq (.ite (.an (.cmp .ne (.var 12) (.var 14)) (.cmp .ne (.call 6 (.cons (.var 7) (.cons (.var 12) (.cons (.var 14) .nil)))) (.call 11 (.cons (.var 7) (.cons (.var 12) (.cons (.var 14) .nil)))))) (.seq (.ret (.bl false)) .skip) .skip) .skip)
def b_law_k01_1 : DL.S := (.seq (.for_ [14] false (.rng1 (.blt .len (.cons (.var 5) .nil))) b_law_k01_0) .skip)
def b_law_k01_2 : DL.S := (.seq (.asg 10 (.bin .add (.var 10) (.comp [15] [15] false (.var 11) (.cmp .is (.var 15) .non) (.int 1)))) .skip)
def b_law_k01_3 : DL.S := (.seq (.ite (.nt (.call 7 (.cons (.call 9 (.cons (.var 9) .nil)) (.cons (.call 10 (.cons (.var 9) .nil)) .nil)))) (.seq (.ret (.bl false)) .skip) .skip) .skip)
def b_law_k01_4 : DL.S := (.seq (.asg 11 (.slAB (.var 3) (.bin .mul (.int 5) (.var 8)) (.bin .add (.bin .mul (.int 5) (.var 8)) (.int 5)))) (.seq (.asg 13 (.call 4 (.cons (.var 7) (.cons (.var 11) .nil)))) (.seq (.fz 1 (.own .lst 1 (.bin .add (.var 1) (.lst (.cons (.var 13) (.cons (.call 4 (.cons (.var 13) (.cons (.back (.var 11)) .nil))) (.cons (.call 8 (.cons (.bin .add (.slA (.var 3) (.var 8)) (.slB (.var 3) (.var 8))) (.cons (.int 0) .nil))) .nil))))))) .skip)))
def b_law_k01_5 : DL.S := (.seq (.asg 3 (.call 0 (.cons (.var 0) (.cons (.var 2) (.cons (.int 60) (.cons (.int 27720) .nil)))))) (.seq (.unp [4, 5] (.call 1 (.cons (.var 3) (.cons (.bin .add (.int 2) (.bin .mod (.ix (.var 3) (.int 50)) (.int 5))) .nil)))) (.seq (.asg 6 (.call 2 (.cons (.var 4) (.cons (.var 5) .nil)))) (.seq (.asg 7 (.call 3 (.cons (.var 6) (.cons (.slA (.var 3) (.int 20)) (.cons (.int 4) .nil))))) (.seq (.for_ [8] false (.rng1 (.int 8)) b_law_k01_4) (.seq (.fz 1 (.for_ [9] false (.bin .add (.var 1) (.lst (.cons (.var 6) (.cons (.var 7) .nil)))) b_law_k01_3)) (.seq (.asg 10 (.lst .nil)) (.seq (.for_ [11] false (.var 7) b_law_k01_2) (.seq (.ite (.orr (.cmp .isn (.call 5 (.cons (.var 6) .nil)) (.bl true)) (.nt (.call 7 (.cons (.call 5 (.cons (.var 7) .nil)) (.cons (.cmp .eq (.var 10) (.lst .nil)) .nil))))) (.seq (.ret (.bl false)) .skip) .skip) (.seq (.for_ [12] false (.rng1 (.blt .len (.cons (.var 5) .nil))) b_law_k01_1) .skip))))))))))
def m_law_k01 : DL.S := (.seq (.own .lst 1 (.lst (.cons (.tup .nil) (.cons (.tup (.cons (.tup .nil) .nil)) (.cons (.tup (.cons (.tup (.cons (.int 1) .nil)) .nil)) (.cons (.tup (.cons (.tup (.cons (.int 1) (.cons (.int 2) .nil))) (.cons (.tup (.cons (.int 3) .nil)) .nil))) (.cons (.tup (.cons (.tup (.cons (.int 1) (.cons (.int 2) .nil))) (.cons (.tup (.cons (.int 3) (.cons (.int 4) .nil))) .nil))) (.cons (.tup (.cons (.tup (.cons (.int 1) (.cons (.int 2) .nil))) .nil)) (.cons (.tup (.cons (.tup (.cons (.int 999) .nil)) .nil)) (.cons (.tup (.cons (.tup (.cons (.int 1000) .nil)) .nil)) .nil)))))))))) (.seq (.fz 1 (.own .lst 1 (.bin .add (.var 1) (.lst (.cons (.tup (.cons (.tup (.cons (.neg (.int 999)) .nil)) .nil)) (.cons (.tup (.cons (.tup (.cons (.neg (.int 1000)) .nil)) .nil)) (.cons (.tup (.cons (.bin .mul (.tup (.cons (.int 1) .nil)) (.int 5)) (.cons (.bin .mul (.tup (.cons (.int 1) .nil)) (.int 4)) (.cons (.bin .mul (.tup (.cons (.int 1) .nil)) (.int 3)) (.cons (.bin .mul (.tup (.cons (.int 1) .nil)) (.int 2)) (.cons (.tup (.cons (.int 1) .nil)) .nil)))))) .nil))))))) (.seq (.app 1 (.tup (.cons (.bin .mul (.tup (.cons (.int 1) .nil)) (.int 6)) (.cons (.bin .mul (.tup (.cons (.int 1) .nil)) (.int 5)) (.cons (.bin .mul (.tup (.cons (.int 1) .nil)) (.int 4)) (.cons (.bin .mul (.tup (.cons (.int 1) .nil)) (.int 3)) (.cons (.bin .mul (.tup (.cons (.int 1) .nil)) (.int 2)) (.cons (.tup (.cons (.int 1) .nil)) .nil)))))))) (.seq (.fz 1 (.own .lst 1 (.bin .add (.var 1) (.lst (.cons (.lst (.cons (.tup (.cons (.int 1) .nil)) .nil)) (.cons (.tup (.cons (.lst (.cons (.int 1) .nil)) .nil)) (.cons (.tup (.cons (.tup (.cons (.bl true) .nil)) .nil)) (.cons (.tup (.cons (.tup (.cons .non .nil)) .nil)) (.cons (.tup (.cons (.tup (.cons .non (.cons (.int 2) .nil))) (.cons (.tup (.cons .non .nil)) .nil))) (.cons .non (.cons (.int 5) (.cons (.tup (.cons (.tup (.cons (.str "1") .nil)) .nil)) (.cons (.tup (.cons (.tup (.cons (.int 1) (.cons (.int 2) .nil))) (.cons (.tup .nil) .nil))) .nil))))))))))))) (.seq (.for_ [2] false (.tup (.cons (.int 0) (.cons (.int 1) (.cons (.int 2) (.cons (.int 3) .nil))))) b_law_k01_5) (.seq (.ite (.orr (.cmp .isn (.call 5 (.cons (.tup (.cons (.tup (.cons (.int 12) (.cons .non .nil))) (.cons (.tup (.cons (.int 14) .nil)) .nil))) .nil)) (.bl false)) (.cmp .isn (.call 5 (.cons (.tup (.cons (.tup (.cons (.int 5) .nil)) .nil)) .nil)) (.bl true))) (.seq (.ret (.bl false)) .skip) .skip) (.seq (.ret (.an (.cmp .eq (.call 6 (.cons (.tup (.cons (.tup (.cons (.int 12) (.cons (.int 13) .nil))) (.cons (.tup (.cons (.int 14) .nil)) .nil))) (.cons (.int 2) (.cons (.int 1) .nil)))) (.int 14)) (.cmp .eq (.call 6 (.cons (.tup (.cons (.tup (.cons (.int 12) (.cons (.int 13) .nil))) (.cons (.tup (.cons (.int 14) .nil)) .nil))) (.cons (.int 0) (.cons (.int 2) .nil)))) (.int 13)))) .skip)))))))
def G_law_k01 : List D → Option D := runF (phi [G__law_digits, G__law_weights, G__law_table, G__law_hidden, G__law_mutated, G_is_whole, G_entry_of, G__law_same_bool, G__law_any_value, G_is_table, G__law_is_table, G__law_entry]) cs m_law_k01 16 1
/-- three_sums: slots 0=table 1=a 2=b 3=c 4=d 5=first 6=second -/
def m_three_sums : DL.S := (.seq (.asg 5 (.bin .add (.call 0 (.cons (.var 0) (.cons (.var 1) (.cons (.var 2) .nil)))) (.call 0 (.cons (.var 0) (.cons (.var 3) (.cons (.var 4) .nil)))))) (.seq (.asg 6 (.bin .add (.call 0 (.cons (.var 0) (.cons (.var 1) (.cons (.var 3) .nil)))) (.call 0 (.cons (.var 0) (.cons (.var 2) (.cons (.var 4) .nil)))))) (.seq (.ret (.tup (.cons (.var 5) (.cons (.var 6) (.cons (.bin .add (.call 0 (.cons (.var 0) (.cons (.var 1) (.cons (.var 4) .nil)))) (.call 0 (.cons (.var 0) (.cons (.var 2) (.cons (.var 3) .nil))))) .nil))))) .skip)))
def G_three_sums : List D → Option D := runF (phi [G_entry_of]) cs m_three_sums 7 5
/-- clash: slots 0=table 1=many 2=a 3=b 4=c 5=d 6=sums -/
def b_clash_0 : DL.S := (.seq (.asg 6 (.call 0 (.cons (.var 0) (.cons (.var 2) (.cons (.var 3) (.cons (.var 4) (.cons (.var 5) .nil))))))) (.seq (.ite (.cmp .gt (.bin .sub (.blt .max (.cons (.var 6) .nil)) (.blt .min (.cons (.var 6) .nil))) (.int 1)) (.seq (.ret (.tup (.cons (.var 2) (.cons (.var 3) (.cons (.var 4) (.cons (.var 5) .nil)))))) .skip) .skip) .skip))
def b_clash_1 : DL.S := (.seq (.for_ [5] false (.rng2 (.bin .add (.var 4) (.int 1)) (.var 1)) b_clash_0) .skip)
def b_clash_2 : DL.S := (.seq (.for_ [4] false (.rng2 (.bin .add (.var 3) (.int 1)) (.var 1)) b_clash_1) .skip)
def b_clash_3 : DL.S := (.seq (.for_ [3] false (.rng2 (.bin .add (.var 2) (.int 1)) (.var 1)) b_clash_2) .skip)
def m_clash : DL.S := (.seq (.asg 1 (.bin .add (.blt .len (.cons (.var 0) .nil)) (.int 1))) (.seq (.for_ [2] false (.rng1 (.var 1)) b_clash_3) (.seq (.ret .non) .skip)))
def G_clash : List D → Option D := runF (phi [G_three_sums]) cs m_clash 7 1
/-- is_real: slots 0=table -/
def m_is_real : DL.S := (.seq (.ret (.cmp .is (.call 0 (.cons (.var 0) .nil)) .non)) .skip)
def G_is_real : List D → Option D := runF (phi [G_clash]) cs m_is_real 1 1
/-- _law_changed: slots 0=table 1=digits 2=rows 3=k 4=one 5=place 6=row -/
def b__law_changed_0 : DL.S := (.seq (.asg 4 (.bin .mod (.ix (.var 1) (.bin .add (.int 1) (.var 3))) (.blt .len (.cons (.var 2) .nil)))) (.seq (.asg 5 (.bin .mod (.ix (.var 1) (.bin .add (.int 3) (.var 3))) (.blt .len (.cons (.ix (.var 2) (.var 4)) .nil)))) (.seq (.ite (.cmp .isn (.ix (.ix (.var 2) (.var 4)) (.var 5)) .non) (.seq (.setR 2 (.var 4) (.var 5) (.bin .add (.ix (.ix (.var 2) (.var 4)) (.var 5)) (.ix (.lst (.cons (.int 1) (.cons (.bin .sub (.int 0) (.int 1)) (.cons (.int 2) (.cons (.bin .sub (.int 0) (.int 2)) (.cons (.int 3) .nil)))))) (.bin .mod (.ix (.var 1) (.bin .add (.int 5) (.var 3))) (.int 5))))) .skip) .skip) .skip)))
def m__law_changed : DL.S := (.seq (.ownR 2 [6] 6 (.var 0)) (.seq (.for_ [3] false (.rng1 (.bin .add (.int 1) (.bin .mod (.ix (.var 1) (.int 0)) (.int 2)))) b__law_changed_0) (.seq (.ret (.blt .toT (.cons (.comp [6] [6] false (.var 2) (.bl true) (.blt .toT (.cons (.var 6) .nil))) .nil))) .skip)))
def G__law_changed : List D → Option D := runF (phi []) cs m__law_changed 7 2
/-- _law_fours: slots 0=table 1=found 2=many 3=a 4=b 5=c 6=d 7=one 8=two 9=three -/
def b__law_fours_0 : DL.S := (.seq (.asg 7 (.bin .add (.call 0 (.cons (.var 0) (.cons (.var 3) (.cons (.var 4) .nil)))) (.call 0 (.cons (.var 0) (.cons (.var 5) (.cons (.var 6) .nil)))))) (.seq (.asg 8 (.bin .add (.call 0 (.cons (.var 0) (.cons (.var 3) (.cons (.var 5) .nil)))) (.call 0 (.cons (.var 0) (.cons (.var 4) (.cons (.var 6) .nil)))))) (.seq (.asg 9 (.bin .add (.call 0 (.cons (.var 0) (.cons (.var 3) (.cons (.var 6) .nil)))) (.call 0 (.cons (.var 0) (.cons (.var 4) (.cons (.var 5) .nil)))))) (.seq (.ite (.cmp .gt (.bin .sub (.blt .max (.cons (.var 7) (.cons (.var 8) (.cons (.var 9) .nil)))) (.blt .min (.cons (.var 7) (.cons (.var 8) (.cons (.var 9) .nil))))) (.int 1)) (.seq (.app 1 (.tup (.cons (.var 3) (.cons (.var 4) (.cons (.var 5) (.cons (.var 6) .nil)))))) .skip) .skip) .skip))))
def b__law_fours_1 : DL.S := (.seq (.for_ [6] false (.rng2 (.bin .add (.var 5) (.int 1)) (.var 2)) b__law_fours_0) .skip)
def b__law_fours_2 : DL.S := (.seq (.for_ [5] false (.rng2 (.bin .add (.var 4) (.int 1)) (.var 2)) b__law_fours_1) .skip)
def b__law_fours_3 : DL.S := (.seq (.for_ [4] false (.rng2 (.bin .add (.var 3) (.int 1)) (.var 2)) b__law_fours_2) .skip)
def m__law_fours : DL.S := (.seq (.par 1 2 .lst .val (.lst .nil) (.bin .add (.blt .len (.cons (.var 0) .nil)) (.int 1))) (.seq (.for_ [3] false (.rng1 (.var 2)) b__law_fours_3) (.seq (.ret (.var 1)) .skip)))
def G__law_fours : List D → Option D := runF (phi [G__law_entry]) cs m__law_fours 10 1
/-- _law_square: slots 0=table 1=more 2=many 3=rows 4=one 5=line 6=other -/
def b__law_square_0 : DL.S := (.seq (.app 5 (.dget2 (.var 1) (.tup (.cons (.var 4) (.cons (.var 6) .nil))) (.call 0 (.cons (.var 0) (.cons (.var 4) (.cons (.var 6) .nil)))))) .skip)
def b__law_square_1 : DL.S := (.seq (.own .lst 5 (.lst .nil)) (.seq (.for_ [6] false (.rng1 (.var 2)) b__law_square_0) (.seq (.appF 3 5) .skip)))
def m__law_square : DL.S := (.seq (.asg 2 (.bin .add (.blt .len (.cons (.var 0) .nil)) (.int 1))) (.seq (.own .lst 3 (.lst .nil)) (.seq (.for_ [4] false (.rng1 (.var 2)) b__law_square_1) (.seq (.ret (.var 3)) .skip))))
def G__law_square : List D → Option D := runF (phi [G__law_entry]) cs m__law_square 7 2
/-- _law_fits: slots 0=table 1=more 2=rows 3=many 4=far 5=one 6=middle 7=other 8=ways 9=column 10=way -/
def b__law_fits_0 : DL.S := (.seq (.ite (.an (.din false (.tup (.cons (.var 5) (.cons (.var 6) .nil))) (.var 4)) (.din false (.tup (.cons (.var 6) (.cons (.var 7) .nil))) (.var 4))) (.seq (.asg 10 (.bin .add (.dget (.var 4) (.tup (.cons (.var 5) (.cons (.var 6) .nil)))) (.dget (.var 4) (.tup (.cons (.var 6) (.cons (.var 7) .nil)))))) (.seq (.setD 4 (.tup (.cons (.var 5) (.cons (.var 7) .nil))) (.blt .max (.cons (.var 10) (.cons (.dget2 (.var 4) (.tup (.cons (.var 5) (.cons (.var 7) .nil))) (.var 10)) .nil)))) .skip)) .skip) .skip)
def b__law_fits_1 : DL.S := (.seq (.for_ [7] false (.rng1 (.var 3)) b__law_fits_0) .skip)
def b__law_fits_2 : DL.S := (.seq (.for_ [5] false (.rng1 (.var 3)) b__law_fits_1) .skip)
def b__law_fits_3 : DL.S := (.seq (.ite (.an (.cmp .isn (.ix (.ix (.var 2) (.var 5)) (.var 9)) .non) (.cmp .isn (.ix (.ix (.var 2) (.var 7)) (.var 9)) .non)) (.seq (.app 8 (.bin .sub (.bin .sub (.ix (.ix (.var 2) (.var 5)) (.var 9)) (.ix (.ix (.var 2) (.var 7)) (.var 9))) (.int 1))) .skip) .skip) .skip)
def b__law_fits_4 : DL.S := (.seq (.own .lst 8 (.lst .nil)) (.seq (.for_ [9] false (.rng1 (.var 3)) b__law_fits_3) (.seq (.ite (.cmp .ne (.var 8) (.lst .nil)) (.seq (.setD 4 (.tup (.cons (.var 5) (.cons (.var 7) .nil))) (.blt .max (.cons (.var 8) .nil))) .skip) .skip) .skip)))
def b__law_fits_5 : DL.S := (.seq (.for_ [7] false (.rng1 (.var 3)) b__law_fits_4) .skip)
def m__law_fits : DL.S := (.seq (.asg 2 (.call 0 (.cons (.var 0) (.cons (.var 1) .nil)))) (.seq (.par 3 4 .val .dic (.blt .len (.cons (.var 2) .nil)) .dnew) (.seq (.for_ [5] false (.rng1 (.var 3)) b__law_fits_5) (.seq (.for_ [6] false (.rng1 (.var 3)) b__law_fits_2) (.seq (.ret (.cmp .eq (.comp [5] [5] false (.rng1 (.var 3)) (.cmp .ge (.dget2 (.var 4) (.tup (.cons (.var 5) (.cons (.var 5) .nil))) (.bin .sub (.int 0) (.int 1))) (.int 0)) (.var 5)) (.lst .nil))) .skip)))))
def G__law_fits : List D → Option D := runF (phi [G__law_square]) cs m__law_fits 11 2
/-- law_k02: slots 0=script 1=index 2=digits 3=unit 4=weights 5=table 6=k 7=other 8=bad 9=found 10=a 11=b 12=c 13=d 14=one 15=two -/
def b_law_k02_0 : DL.S := (.seq (.asg 7 (.call 5 (.cons (.var 5) (.cons (.slA (.var 2) (.bin .add (.int 20) (.bin .mul (.int 8) (.var 6)))) .nil)))) (.seq (.par 8 9 .val .val (.call 7 (.cons (.var 7) .nil)) (.call 6 (.cons (.var 7) .nil))) (.seq (.ite (.orr (.nt (.call 8 (.cons (.call 4 (.cons (.var 7) .nil)) (.cons (.cmp .eq (.var 8) (.lst .nil)) .nil)))) (.cmp .ne (.cmp .eq (.var 8) (.lst .nil)) (.call 9 (.cons (.var 7) (.cons .dnew .nil))))) (.seq (.ret (.bl false)) .skip) .skip) (.seq (.ite (.orr (.cmp .ne (.cmp .is (.var 9) .non) (.cmp .eq (.var 8) (.lst .nil))) (.an (.cmp .isn (.var 9) .non) (.cmp .nin (.var 9) (.var 8)))) (.seq (.ret (.bl false)) .skip) .skip) (.seq (.ite (.an (.cmp .lt (.blt .len (.cons (.var 7) .nil)) (.int 3)) (.nt (.call 4 (.cons (.var 7) .nil)))) (.seq (.ret (.bl false)) .skip) .skip) (.seq (.ite (.cmp .ge (.blt .len (.cons (.var 7) .nil)) (.int 3)) (.seq (.unp [10, 11, 12, 13] (.ix (.lst (.cons (.lst (.cons (.int 0) (.cons (.int 1) (.cons (.int 2) (.cons (.int 3) .nil))))) (.cons (.lst (.cons (.int 3) (.cons (.int 1) (.cons (.int 0) (.cons (.int 2) .nil))))) (.cons (.lst (.cons (.int 2) (.cons (.int 3) (.cons (.int 1) (.cons (.int 0) .nil))))) .nil)))) (.bin .mod (.ix (.var 2) (.int 51)) (.int 3)))) (.seq (.asg 14 (.bin .add (.call 10 (.cons (.var 7) (.cons (.var 10) (.cons (.var 11) .nil)))) (.call 10 (.cons (.var 7) (.cons (.var 12) (.cons (.var 13) .nil)))))) (.seq (.asg 15 (.bin .add (.call 10 (.cons (.var 7) (.cons (.var 10) (.cons (.var 12) .nil)))) (.call 10 (.cons (.var 7) (.cons (.var 11) (.cons (.var 13) .nil)))))) (.seq (.ite (.cmp .ne (.call 3 (.cons (.var 7) (.cons (.var 10) (.cons (.var 11) (.cons (.var 12) (.cons (.var 13) .nil)))))) (.tup (.cons (.var 14) (.cons (.var 15) (.cons (.bin .add (.call 10 (.cons (.var 7) (.cons (.var 10) (.cons (.var 13) .nil)))) (.call 10 (.cons (.var 7) (.cons (.var 11) (.cons (.var 12) .nil))))) .nil))))) (.seq (.ret (.bl false)) .skip) .skip) .skip)))) .skip) .skip))))))
def b_law_k02_1 : DL.S := (.seq (.asg 2 (.call 0 (.cons (.var 0) (.cons (.var 1) (.cons (.int 60) (.cons (.int 27720) .nil)))))) (.seq (.unp [3, 4] (.call 1 (.cons (.var 2) (.cons (.bin .add (.int 2) (.bin .mod (.ix (.var 2) (.int 50)) (.int 5))) .nil)))) (.seq (.asg 5 (.call 2 (.cons (.var 3) (.cons (.var 4) .nil)))) (.seq (.ite (.orr (.cmp .isn (.call 4 (.cons (.var 5) .nil)) (.bl true)) (.cmp .isn (.call 6 (.cons (.var 5) .nil)) .non)) (.seq (.ret (.bl false)) .skip) .skip) (.seq (.for_ [6] false (.rng1 (.int 3)) b_law_k02_0) .skip)))))
def m_law_k02 : DL.S := (.seq (.for_ [1] false (.rng1 (.int 8)) b_law_k02_1) (.seq (.ite (.cmp .ne (.call 3 (.cons (.tup (.cons (.tup (.cons (.int 12) (.cons (.int 13) (.cons (.int 14) .nil)))) (.cons (.tup (.cons (.int 14) (.cons (.int 15) .nil))) (.cons (.tup (.cons (.int 16) .nil)) .nil)))) (.cons (.int 0) (.cons (.int 1) (.cons (.int 2) (.cons (.int 3) .nil)))))) (.tup (.cons (.int 28) (.cons (.int 28) (.cons (.int 28) .nil))))) (.seq (.ret (.bl false)) .skip) .skip) (.seq (.ite (.cmp .isn (.call 4 (.cons (.tup (.cons (.tup (.cons (.int 7) (.cons (.neg (.int 9)) .nil))) (.cons (.tup (.cons (.int 100) .nil)) .nil))) .nil)) (.bl true)) (.seq (.ret (.bl false)) .skip) .skip) (.seq (.ret (.an (.cmp .eq (.call 6 (.cons (.tup (.cons (.tup (.cons (.int 1) (.cons (.int 1) (.cons (.int 1) .nil)))) (.cons (.tup (.cons (.int 1) (.cons (.int 1) .nil))) (.cons (.tup (.cons (.int 4) .nil)) .nil)))) .nil)) (.tup (.cons (.int 0) (.cons (.int 1) (.cons (.int 2) (.cons (.int 3) .nil)))))) (.cmp .is (.call 4 (.cons (.tup (.cons (.tup (.cons (.int 1) (.cons (.int 1) (.cons (.int 1) .nil)))) (.cons (.tup (.cons (.int 1) (.cons (.int 1) .nil))) (.cons (.tup (.cons (.int 2) .nil)) .nil)))) .nil)) (.bl true)))) .skip))))
def G_law_k02 : List D → Option D := runF (phi [G__law_digits, G__law_weights, G__law_table, G_three_sums, G_is_real, G__law_changed, G_clash, G__law_fours, G__law_same_bool, G__law_fits, G__law_entry]) cs m_law_k02 16 1
/-- renamed: slots 0=table 1=order 2=many 3=rows 4=one 5=other 6=row -/
def m_renamed : DL.S := (.seq (.asg 2 (.blt .len (.cons (.var 1) .nil))) (.seq (.asg 3 (.comp [4] [4] false (.rng1 (.bin .sub (.var 2) (.int 1))) (.bl true) (.comp [5] [5] false (.rng2 (.bin .add (.var 4) (.int 1)) (.var 2)) (.bl true) (.call 0 (.cons (.var 0) (.cons (.ix (.var 1) (.var 4)) (.cons (.ix (.var 1) (.var 5)) .nil))))))) (.seq (.ret (.blt .toT (.cons (.comp [6] [6] false (.var 3) (.bl true) (.blt .toT (.cons (.var 6) .nil))) .nil))) .skip)))
def G_renamed : List D → Option D := runF (phi [G_entry_of]) cs m_renamed 7 2
/-- shown: slots 0=unit 1=weights 2=many 3=rows 4=one 5=other 6=row -/
def m_shown : DL.S := (.seq (.asg 2 (.blt .len (.cons (.var 1) .nil))) (.seq (.asg 3 (.comp [4] [4] false (.rng1 (.bin .sub (.var 2) (.int 1))) (.bl true) (.comp [5] [5] false (.rng2 (.bin .add (.var 4) (.int 1)) (.var 2)) (.bl true) (.bin .fdiv (.bin .add (.ix (.var 1) (.var 4)) (.ix (.var 1) (.var 5))) (.var 0))))) (.seq (.ret (.blt .toT (.cons (.comp [6] [6] false (.var 3) (.bl true) (.blt .toT (.cons (.var 6) .nil))) .nil))) .skip)))
def G_shown : List D → Option D := runF (phi []) cs m_shown 7 2
/-- _law_order: slots 0=digits 1=many 2=left 3=found 4=k -/
def b__law_order_0 : DL.S := (.seq (.appP 3 2 (.bin .mod (.ix (.var 0) (.var 4)) (.blt .len (.cons (.var 2) .nil)))) .skip)
def m__law_order : DL.S := (.seq (.par 2 3 .lst .lst (.lrng (.var 1)) (.lst .nil)) (.seq (.for_ [4] false (.rng1 (.var 1)) b__law_order_0) (.seq (.ret (.ktup (.var 3))) .skip)))
def G__law_order : List D → Option D := runF (phi []) cs m__law_order 5 2
/-- law_k03: slots 0=script 1=index 2=digits 3=unit 4=weights 5=table 6=turn_to 7=other 8=a 9=spoilt 10=hidden 11=back 12=large 13=b 14=k 15=digit -/
def b_law_k03_0 : DL.S := (.seq (.ite (.cmp .ne (.call 9 (.cons (.var 7) (.cons (.var 8) (.cons (.var 13) .nil)))) (.call 9 (.cons (.var 5) (.cons (.ix (.var 6) (.var 8)) (.cons (.ix (.var 6) (.var 13)) .nil))))) (.seq (.ret (.bl false)) .skip) .skip) .skip)
def b_law_k03_1 : DL.S := (.seq (.for_ [13] false (.rng1 (.blt .len (.cons (.var 4) .nil))) b_law_k03_0) .skip)
def b_law_k03_2 : DL.S := (.seq (.asg 2 (.call 0 (.cons (.var 0) (.cons (.var 1) (.cons (.int 60) (.cons (.int 27720) .nil)))))) (.seq (.unp [3, 4] (.call 1 (.cons (.var 2) (.cons (.bin .add (.int 2) (.bin .mod (.ix (.var 2) (.int 50)) (.int 5))) .nil)))) (.seq (.asg 5 (.call 2 (.cons (.var 3) (.cons (.var 4) .nil)))) (.seq (.asg 6 (.call 3 (.cons (.slA (.var 2) (.int 20)) (.cons (.blt .len (.cons (.var 4) .nil)) .nil)))) (.seq (.ite (.orr (.cmp .ne (.call 7 (.cons (.var 3) (.cons (.var 4) .nil))) (.var 5)) (.nt (.isi (.call 7 (.cons (.var 3) (.cons (.var 4) .nil))) "tuple"))) (.seq (.ret (.bl false)) .skip) .skip) (.seq (.asg 7 (.call 4 (.cons (.var 5) (.cons (.var 6) .nil)))) (.seq (.ite (.cmp .ne (.var 7) (.call 2 (.cons (.var 3) (.cons (.comp [14] [14] false (.kit (.var 6)) (.bl true) (.ix (.var 4) (.var 14))) .nil)))) (.seq (.ret (.bl false)) .skip) .skip) (.seq (.for_ [8] false (.rng1 (.blt .len (.cons (.var 4) .nil))) b_law_k03_1) (.seq (.asg 9 (.call 5 (.cons (.var 5) (.cons (.slA (.var 2) (.int 30)) .nil)))) (.seq (.ite (.orr (.cmp .ne (.call 8 (.cons (.call 4 (.cons (.var 9) (.cons (.var 6) .nil))) .nil)) (.call 8 (.cons (.var 9) .nil))) (.nt (.call 8 (.cons (.var 7) .nil)))) (.seq (.ret (.bl false)) .skip) .skip) (.seq (.ite (.cmp .ne (.call 4 (.cons (.var 9) (.cons (.trng (.blt .len (.cons (.var 4) .nil))) .nil))) (.var 9)) (.seq (.ret (.bl false)) .skip) .skip) (.seq (.asg 10 (.call 6 (.cons (.var 5) (.cons (.slA (.var 2) (.int 40)) (.cons (.int 3) .nil))))) (.seq (.asg 11 (.comp [14] [14] false (.rng1 (.blt .len (.cons (.var 4) .nil))) (.bl true) (.tix (.var 6) (.var 14)))) (.seq (.ite (.cmp .ne (.call 4 (.cons (.call 4 (.cons (.var 10) (.cons (.var 6) .nil))) (.cons (.blt .toT (.cons (.var 11) .nil)) .nil))) (.var 10)) (.seq (.ret (.bl false)) .skip) .skip) (.seq (.asg 12 (.blt .toT (.cons (.comp [15] [15] false (.slAB (.var 2) (.int 10) (.bin .add (.int 12) (.bin .mod (.ix (.var 2) (.int 51)) (.int 5)))) (.bl true) (.bin .sub (.bin .mod (.var 15) (.int 19999)) (.int 9999))) .nil))) (.seq (.ite (.cmp .ne (.call 7 (.cons (.bin .add (.int 1) (.bin .mod (.ix (.var 2) (.int 52)) (.int 100))) (.cons (.var 12) .nil))) (.call 2 (.cons (.bin .add (.int 1) (.bin .mod (.ix (.var 2) (.int 52)) (.int 100))) (.cons (.var 12) .nil)))) (.seq (.ret (.bl false)) .skip) .skip) .skip))))))))))))))))
def m_law_k03 : DL.S := (.seq (.for_ [1] false (.rng1 (.int 8)) b_law_k03_2) (.seq (.ret (.an (.cmp .eq (.call 4 (.cons (.tup (.cons (.tup (.cons (.int 12) (.cons (.int 13) .nil))) (.cons (.tup (.cons (.int 14) .nil)) .nil))) (.cons (.tup (.cons (.int 2) (.cons (.int 1) (.cons (.int 0) .nil)))) .nil))) (.tup (.cons (.tup (.cons (.int 14) (.cons (.int 13) .nil))) (.cons (.tup (.cons (.int 12) .nil)) .nil)))) (.cmp .eq (.call 7 (.cons (.int 2) (.cons (.tup (.cons (.int 11) (.cons (.int 13) (.cons (.int 15) .nil)))) .nil))) (.tup (.cons (.tup (.cons (.int 12) (.cons (.int 13) .nil))) (.cons (.tup (.cons (.int 14) .nil)) .nil)))))) .skip))
def G_law_k03 : List D → Option D := runF (phi [G__law_digits, G__law_weights, G__law_table, G__law_order, G_renamed, G__law_changed, G__law_hidden, G_shown, G_is_real, G__law_entry]) cs m_law_k03 16 1
/-- bounds: slots 0=table 1=many 2=nodes 3=found 4=one 5=middle 6=other 7=entry 8=length -/
def b_bounds_0 : DL.S := (.seq (.ite (.an (.din false (.tup (.cons (.var 4) (.cons (.var 5) .nil))) (.var 3)) (.din false (.tup (.cons (.var 5) (.cons (.var 6) .nil))) (.var 3))) (.seq (.asg 8 (.bin .add (.dget (.var 3) (.tup (.cons (.var 4) (.cons (.var 5) .nil)))) (.dget (.var 3) (.tup (.cons (.var 5) (.cons (.var 6) .nil)))))) (.seq (.ite (.cmp .lt (.var 8) (.dget2 (.var 3) (.tup (.cons (.var 4) (.cons (.var 6) .nil))) (.bin .add (.var 8) (.int 1)))) (.seq (.setD 3 (.tup (.cons (.var 4) (.cons (.var 6) .nil))) (.var 8)) .skip) .skip) .skip)) .skip) .skip)
def b_bounds_1 : DL.S := (.seq (.for_ [6] false (.var 2) b_bounds_0) .skip)
def b_bounds_2 : DL.S := (.seq (.for_ [4] false (.var 2) b_bounds_1) .skip)
def b_bounds_3 : DL.S := (.seq (.asg 7 (.ife (.cmp .ne (.var 4) (.var 6)) (.call 0 (.cons (.var 0) (.cons (.var 4) (.cons (.var 6) .nil)))) .non)) (.seq (.ite (.cmp .isn (.var 7) .non) (.seq (.setD 3 (.tup (.cons (.var 4) (.cons (.bin .add (.var 1) (.var 6)) .nil))) (.bin .mul (.neg (.var 7)) (.con 0))) (.seq (.setD 3 (.tup (.cons (.bin .add (.var 1) (.var 6)) (.cons (.var 4) .nil))) (.bin .sub (.bin .mul (.bin .add (.var 7) (.int 1)) (.con 0)) (.int 1))) .skip)) .skip) .skip))
def b_bounds_4 : DL.S := (.seq (.for_ [6] false (.rng1 (.var 1)) b_bounds_3) .skip)
def b_bounds_5 : DL.S := (.seq (.setD 3 (.tup (.cons (.var 4) (.cons (.var 4) .nil))) (.int 0)) .skip)
def m_bounds : DL.S := (.seq (.asg 1 (.bin .add (.blt .len (.cons (.var 0) .nil)) (.int 1))) (.seq (.par 2 3 .val .dic (.lrng (.bin .mul (.int 2) (.var 1))) .dnew) (.seq (.for_ [4] false (.var 2) b_bounds_5) (.seq (.for_ [4] false (.rng1 (.var 1)) b_bounds_4) (.seq (.for_ [5] false (.var 2) b_bounds_2) (.seq (.ret (.ife (.blt .all (.cons (.comp [4] [4] false (.var 2) (.bl true) (.cmp .eq (.dget (.var 3) (.tup (.cons (.var 4) (.cons (.var 4) .nil)))) (.int 0))) .nil)) (.var 3) .non)) .skip))))))
def G_bounds : List D → Option D := runF (phi [G_entry_of]) cs m_bounds 9 1
/-- fits: slots 0=table -/
def m_fits : DL.S := (.seq (.ret (.cmp .isn (.call 0 (.cons (.var 0) .nil)) .non)) .skip)
def G_fits : List D → Option D := runF (phi [G_bounds]) cs m_fits 1 1
/-- pair_range: slots 0=table 1=one 2=other 3=found 4=many 5=lows 6=highs -/
def m_pair_range : DL.S := (.seq (.asg 3 (.call 0 (.cons (.var 0) .nil))) (.seq (.ite (.cmp .is (.var 3) .non) (.seq (.ret .non) .skip) .skip) (.seq (.asg 4 (.bin .add (.blt .len (.cons (.var 0) .nil)) (.int 1))) (.seq (.par 5 6 .lst .lst (.lst .nil) (.lst .nil)) (.seq (.ite (.din false (.tup (.cons (.var 1) (.cons (.bin .add (.var 4) (.var 2)) .nil))) (.var 3)) (.seq (.app 5 (.bin .mul (.neg (.int 2)) (.dget (.var 3) (.tup (.cons (.var 1) (.cons (.bin .add (.var 4) (.var 2)) .nil)))))) (.seq (.app 6 (.bin .mul (.int 2) (.dget (.var 3) (.tup (.cons (.bin .add (.var 4) (.var 2)) (.cons (.var 1) .nil)))))) .skip)) .skip) (.seq (.ite (.an (.din false (.tup (.cons (.var 1) (.cons (.bin .add (.var 4) (.var 1)) .nil))) (.var 3)) (.din false (.tup (.cons (.var 2) (.cons (.bin .add (.var 4) (.var 2)) .nil))) (.var 3))) (.seq (.app 5 (.bin .sub (.neg (.dget (.var 3) (.tup (.cons (.var 1) (.cons (.bin .add (.var 4) (.var 1)) .nil))))) (.dget (.var 3) (.tup (.cons (.var 2) (.cons (.bin .add (.var 4) (.var 2)) .nil)))))) (.seq (.app 6 (.bin .add (.dget (.var 3) (.tup (.cons (.bin .add (.var 4) (.var 1)) (.cons (.var 1) .nil)))) (.dget (.var 3) (.tup (.cons (.bin .add (.var 4) (.var 2)) (.cons (.var 2) .nil)))))) .skip)) .skip) (.seq (.ite (.cmp .eq (.var 5) (.lst .nil)) (.seq (.ret (.tup (.cons .non (.cons .non .nil)))) .skip) .skip) (.seq (.ret (.tup (.cons (.bin .fdiv (.blt .max (.cons (.var 5) .nil)) (.bin .mul (.int 2) (.con 0))) (.cons (.bin .fdiv (.blt .min (.cons (.var 6) .nil)) (.bin .mul (.int 2) (.con 0))) .nil)))) .skip))))))))
def G_pair_range : List D → Option D := runF (phi [G_bounds]) cs m_pair_range 7 3
/-- filled: slots 0=table 1=rows 2=one 3=place 4=row 5=low 6=high -/
def b_filled_0 : DL.S := (.seq (.ite (.cmp .is (.ix (.ix (.var 1) (.var 2)) (.var 3)) .non) (.seq (.unp [5, 6] (.call 1 (.cons (.blt .toT (.cons (.comp [4] [4] false (.var 1) (.bl true) (.blt .toT (.cons (.var 4) .nil))) .nil)) (.cons (.var 2) (.cons (.bin .add (.bin .add (.var 2) (.var 3)) (.int 1)) .nil))))) (.seq (.setR 1 (.var 2) (.var 3) (.ife (.cmp .isn (.var 5) .non) (.var 5) (.int 0))) .skip)) .skip) .skip)
def b_filled_1 : DL.S := (.seq (.for_ [3] false (.rng1 (.blt .len (.cons (.ix (.var 1) (.var 2)) .nil))) b_filled_0) .skip)
def m_filled : DL.S := (.seq (.ite (.cmp .is (.call 0 (.cons (.var 0) .nil)) .non) (.seq (.ret .non) .skip) .skip) (.seq (.ownR 1 [4] 4 (.var 0)) (.seq (.for_ [2] false (.rng1 (.blt .len (.cons (.var 1) .nil))) b_filled_1) (.seq (.ret (.blt .toT (.cons (.comp [4] [4] false (.var 1) (.bl true) (.blt .toT (.cons (.var 4) .nil))) .nil))) .skip))))
def G_filled : List D → Option D := runF (phi [G_bounds, G_pair_range]) cs m_filled 7 1
/-- _law_right: slots 0=table 1=found 2=row 3=line 4=known 5=entry -/
def b__law_right_0 : DL.S := (.seq (.ite (.orr (.nt (.isi (.var 3) "tuple")) (.cmp .ne (.blt .len (.cons (.var 3) .nil)) (.blt .len (.cons (.var 2) .nil)))) (.seq (.ret (.bl false)) .skip) .skip) (.seq (.ite (.cmp .ne (.comp [4, 5] [4, 5] true (.zp (.var 2) (.var 3)) (.an (.cmp .isn (.var 4) .non) (.cmp .ne (.var 4) (.var 5))) (.int 1)) (.lst .nil)) (.seq (.ret (.bl false)) .skip) .skip) (.seq (.ite (.cmp .ne (.comp [5] [5] false (.var 3) (.orr (.nt (.isi (.var 5) "int")) (.isi (.var 5) "bool")) (.var 5)) (.lst .nil)) (.seq (.ret (.bl false)) .skip) .skip) .skip)))
def m__law_right : DL.S := (.seq (.ite (.orr (.nt (.isi (.var 1) "tuple")) (.cmp .ne (.blt .len (.cons (.var 1) .nil)) (.blt .len (.cons (.var 0) .nil)))) (.seq (.ret (.bl false)) .skip) .skip) (.seq (.for_ [2, 3] true (.zp (.var 0) (.var 1)) b__law_right_0) (.seq (.ret (.cmp .eq (.call 0 (.cons (.var 1) .nil)) (.lst .nil))) .skip)))
def G__law_right : List D → Option D := runF (phi [G__law_fours]) cs m__law_right 6 2
/-- law_k04: slots 0=script 1=index 2=digits 3=unit 4=weights 5=whole 6=k 7=table 8=good 9=found -/
def b_law_k04_0 : DL.S := (.seq (.asg 7 (.ife (.cmp .eq (.var 6) (.int 0)) (.var 5) (.call 6 (.cons (.var 5) (.cons (.slA (.var 2) (.bin .add (.int 14) (.bin .mul (.int 8) (.var 6)))) .nil))))) (.seq (.asg 7 (.call 3 (.cons (.var 7) (.cons (.slAB (.var 2) (.bin .add (.int 30) (.var 6)) (.int 50)) (.cons (.bin .add (.int 2) (.var 6)) .nil))))) (.seq (.par 8 9 .val .val (.call 7 (.cons (.var 7) (.cons .dnew .nil))) (.call 5 (.cons (.var 7) .nil))) (.seq (.ite (.orr (.nt (.call 8 (.cons (.call 4 (.cons (.var 7) .nil)) (.cons (.var 8) .nil)))) (.orr (.cmp .eq (.cmp .is (.var 9) .non) (.var 8)) (.an (.cmp .eq (.var 6) (.int 0)) (.nt (.var 8))))) (.seq (.ret (.bl false)) .skip) .skip) (.seq (.ite (.an (.cmp .isn (.var 9) .non) (.nt (.call 9 (.cons (.var 7) (.cons (.var 9) .nil))))) (.seq (.ret (.bl false)) .skip) .skip) .skip)))))
def b_law_k04_1 : DL.S := (.seq (.asg 2 (.call 0 (.cons (.var 0) (.cons (.var 1) (.cons (.int 60) (.cons (.int 27720) .nil)))))) (.seq (.unp [3, 4] (.call 1 (.cons (.var 2) (.cons (.bin .add (.int 2) (.bin .mod (.ix (.var 2) (.int 50)) (.int 5))) .nil)))) (.seq (.asg 5 (.call 2 (.cons (.var 3) (.cons (.var 4) .nil)))) (.seq (.for_ [6] false (.rng1 (.int 3)) b_law_k04_0) (.seq (.ite (.orr (.cmp .ne (.call 5 (.cons (.var 5) .nil)) (.var 5)) (.cmp .isn (.call 4 (.cons (.var 5) .nil)) (.bl true))) (.seq (.ret (.bl false)) .skip) .skip) .skip)))))
def m_law_k04 : DL.S := (.seq (.for_ [1] false (.rng1 (.int 8)) b_law_k04_1) (.seq (.ite (.orr (.cmp .isn (.call 4 (.cons (.tup (.cons (.tup (.cons (.int 12) (.cons (.int 13) (.cons (.int 14) .nil)))) (.cons (.tup (.cons (.int 14) (.cons (.int 15) .nil))) (.cons (.tup (.cons .non .nil)) .nil)))) .nil)) (.bl true)) (.cmp .isn (.call 4 (.cons (.tup (.cons (.tup (.cons .non (.cons .non .nil))) (.cons (.tup (.cons .non .nil)) .nil))) .nil)) (.bl true))) (.seq (.ret (.bl false)) .skip) .skip) (.seq (.ret (.an (.cmp .is (.call 4 (.cons (.tup (.cons (.tup (.cons (.int 1) (.cons (.int 1) (.cons (.int 1) .nil)))) (.cons (.tup (.cons (.int 1) (.cons (.int 1) .nil))) (.cons (.tup (.cons (.int 4) .nil)) .nil)))) .nil)) (.bl false)) (.cmp .is (.call 5 (.cons (.tup (.cons (.tup (.cons (.int 1) (.cons (.int 1) (.cons (.int 1) .nil)))) (.cons (.tup (.cons (.int 1) (.cons (.int 1) .nil))) (.cons (.tup (.cons (.int 4) .nil)) .nil)))) .nil)) .non))) .skip)))
def G_law_k04 : List D → Option D := runF (phi [G__law_digits, G__law_weights, G__law_table, G__law_hidden, G_fits, G_filled, G__law_changed, G__law_fits, G__law_same_bool, G__law_right]) cs m_law_k04 10 1
/-- weight_range: slots 0=table 1=parcel 2=found 3=twin 4=low 5=high -/
def m_weight_range : DL.S := (.seq (.asg 2 (.call 0 (.cons (.var 0) .nil))) (.seq (.ite (.cmp .is (.var 2) .non) (.seq (.ret .non) .skip) .skip) (.seq (.asg 3 (.bin .add (.bin .add (.blt .len (.cons (.var 0) .nil)) (.int 1)) (.var 1))) (.seq (.par 4 5 .val .val (.dget2 (.var 2) (.tup (.cons (.var 1) (.cons (.var 3) .nil))) .non) (.dget2 (.var 2) (.tup (.cons (.var 3) (.cons (.var 1) .nil))) .non)) (.seq (.ite (.orr (.cmp .is (.var 4) .non) (.cmp .is (.var 5) .non)) (.seq (.ret (.tup (.cons .non (.cons .non .nil)))) .skip) .skip) (.seq (.ret (.tup (.cons (.bin .fdiv (.neg (.var 4)) (.con 0)) (.cons (.neg (.bin .fdiv (.neg (.var 5)) (.con 0))) .nil)))) .skip))))))
def G_weight_range : List D → Option D := runF (phi [G_bounds]) cs m_weight_range 6 2
/-- _law_triples: slots 0=table 1=parcel 2=others 3=sums 4=at 5=one 6=other 7=first -/
def b__law_triples_0 : DL.S := (.seq (.asg 7 (.bin .add (.call 0 (.cons (.var 0) (.cons (.var 1) (.cons (.var 5) .nil)))) (.call 0 (.cons (.var 0) (.cons (.var 1) (.cons (.var 6) .nil)))))) (.seq (.app 3 (.bin .sub (.var 7) (.call 0 (.cons (.var 0) (.cons (.var 5) (.cons (.var 6) .nil)))))) .skip))
def b__law_triples_1 : DL.S := (.seq (.for_ [6] false (.slA (.var 2) (.bin .add (.var 4) (.int 1))) b__law_triples_0) .skip)
def m__law_triples : DL.S := (.seq (.asg 2 (.comp [5] [5] false (.rng1 (.bin .add (.blt .len (.cons (.var 0) .nil)) (.int 1))) (.cmp .ne (.var 5) (.var 1)) (.var 5))) (.seq (.own .lst 3 (.lst .nil)) (.seq (.for_ [4, 5] true (.enm (.var 2)) b__law_triples_1) (.seq (.ret (.tup (.cons (.bin .sub (.blt .max (.cons (.var 3) .nil)) (.int 1)) (.cons (.bin .add (.blt .min (.cons (.var 3) .nil)) (.int 2)) .nil)))) .skip))))
def G__law_triples : List D → Option D := runF (phi [G__law_entry]) cs m__law_triples 8 2
/-- law_k05: slots 0=script 1=index 2=digits 3=unit 4=weights 5=whole 6=hidden 7=parcel 8=weight 9=bad 10=low 11=high 12=found 13=number -/
def b_law_k05_0 : DL.S := (.seq (.ite (.cmp .ne (.call 6 (.cons (.var 6) (.cons (.d1 (.tup (.cons (.var 7) (.cons (.var 7) .nil))) (.var 13)) .nil))) (.chain .le .lt (.var 10) (.var 13) (.var 11))) (.seq (.ret (.bl false)) .skip) .skip) .skip)
def b_law_k05_1 : DL.S := (.seq (.unp [10, 11] (.call 5 (.cons (.var 5) (.cons (.var 7) .nil)))) (.seq (.ite (.orr (.cmp .ne (.tup (.cons (.var 10) (.cons (.var 11) .nil))) (.call 7 (.cons (.var 5) (.cons (.var 7) .nil)))) (.nt (.chain .lt .lt (.bin .mul (.var 10) (.var 3)) (.bin .mul (.int 2) (.var 8)) (.bin .mul (.var 11) (.var 3))))) (.seq (.ret (.bl false)) .skip) .skip) (.seq (.asg 12 (.call 5 (.cons (.var 6) (.cons (.var 7) .nil)))) (.seq (.ite (.cmp .eq (.var 12) (.tup (.cons .non (.cons .non .nil)))) (.seq (.ite (.orr (.nt (.call 6 (.cons (.var 6) (.cons (.d1 (.tup (.cons (.var 7) (.cons (.var 7) .nil))) (.neg (.int 5000))) .nil)))) (.nt (.call 6 (.cons (.var 6) (.cons (.d1 (.tup (.cons (.var 7) (.cons (.var 7) .nil))) (.int 5000)) .nil))))) (.seq (.ret (.bl false)) .skip) .skip) .skip) (.seq (.unp [10, 11] (.var 12)) (.seq (.ite (.nt (.chain .lt .lt (.bin .mul (.var 10) (.var 3)) (.bin .mul (.int 2) (.var 8)) (.bin .mul (.var 11) (.var 3)))) (.seq (.ret (.bl false)) .skip) .skip) (.seq (.for_ [13] false (.tup (.cons (.bin .sub (.var 10) (.int 2)) (.cons (.bin .sub (.var 10) (.int 1)) (.cons (.var 10) (.cons (.bin .sub (.var 11) (.int 1)) (.cons (.var 11) (.cons (.bin .add (.var 11) (.int 1)) .nil))))))) b_law_k05_0) .skip)))) .skip))))
def b_law_k05_2 : DL.S := (.seq (.asg 2 (.call 0 (.cons (.var 0) (.cons (.var 1) (.cons (.int 60) (.cons (.int 27720) .nil)))))) (.seq (.unp [3, 4] (.call 1 (.cons (.var 2) (.cons (.bin .add (.int 3) (.bin .mod (.ix (.var 2) (.int 50)) (.int 4))) .nil)))) (.seq (.asg 5 (.call 2 (.cons (.var 3) (.cons (.var 4) .nil)))) (.seq (.asg 6 (.call 3 (.cons (.var 5) (.cons (.slA (.var 2) (.int 20)) (.cons (.int 3) .nil))))) (.seq (.for_ [7, 8] true (.enm (.var 4)) b_law_k05_1) (.seq (.asg 9 (.call 4 (.cons (.var 5) (.cons (.slA (.var 2) (.int 30)) .nil)))) (.seq (.ite (.cmp .eq (.cmp .is (.call 5 (.cons (.var 9) (.cons (.int 0) .nil))) .non) (.call 6 (.cons (.var 9) (.cons .dnew .nil)))) (.seq (.ret (.bl false)) .skip) .skip) .skip)))))))
def m_law_k05 : DL.S := (.seq (.for_ [1] false (.rng1 (.int 6)) b_law_k05_2) (.seq (.ite (.orr (.cmp .ne (.call 5 (.cons (.tup (.cons (.tup (.cons (.int 12) (.cons (.int 13) .nil))) (.cons (.tup (.cons (.int 14) .nil)) .nil))) (.cons (.int 0) .nil))) (.tup (.cons (.int 10) (.cons (.int 13) .nil)))) (.cmp .ne (.call 5 (.cons (.tup (.cons (.tup (.cons (.int 5) .nil)) .nil)) (.cons (.int 1) .nil))) (.tup (.cons .non (.cons .non .nil))))) (.seq (.ret (.bl false)) .skip) .skip) (.seq (.ret (.an (.cmp .eq (.call 5 (.cons (.tup (.cons (.tup (.cons (.int 12) (.cons .non .nil))) (.cons (.tup (.cons .non .nil)) .nil))) (.cons (.int 0) .nil))) (.tup (.cons .non (.cons .non .nil)))) (.cmp .is (.call 5 (.cons (.tup (.cons (.tup (.cons (.int 1) (.cons (.int 1) (.cons (.int 1) .nil)))) (.cons (.tup (.cons (.int 1) (.cons (.int 1) .nil))) (.cons (.tup (.cons (.int 4) .nil)) .nil)))) (.cons (.int 0) .nil))) .non))) .skip)))
def G_law_k05 : List D → Option D := runF (phi [G__law_digits, G__law_weights, G__law_table, G__law_hidden, G__law_changed, G_weight_range, G__law_fits, G__law_triples]) cs m_law_k05 14 1
/-- _law_pair: slots 0=one 1=other 2=number -/
def m__law_pair : DL.S := (.seq (.ret (.d2 (.tup (.cons (.var 0) (.cons (.var 1) .nil))) (.var 2) (.tup (.cons (.var 1) (.cons (.var 0) .nil))) (.var 2))) .skip)
def G__law_pair : List D → Option D := runF (phi []) cs m__law_pair 3 3
/-- law_k06: slots 0=script 1=index 2=gap 3=table 4=digits 5=unit 6=weights 7=whole 8=bad 9=one 10=many 11=other 12=found 13=number 14=low 15=high 16=known 17=good 18=fits_so -/
def b_law_k06_0 : DL.S := (.seq (.ite (.nt (.call 6 (.cons (.var 3) (.cons (.call 8 (.cons (.var 9) (.cons (.var 11) (.cons (.var 13) .nil)))) .nil)))) (.seq (.ret (.bl false)) .skip) .skip) .skip)
def b_law_k06_1 : DL.S := (.seq (.asg 17 (.chain .le .le (.var 14) (.var 13) (.var 15))) (.seq (.asg 18 (.call 6 (.cons (.var 3) (.cons (.call 8 (.cons (.var 9) (.cons (.var 11) (.cons (.var 13) .nil)))) .nil)))) (.seq (.ite (.an (.cmp .is (.var 16) .non) (.cmp .ne (.var 18) (.var 17))) (.seq (.ret (.bl false)) .skip) .skip) .skip)))
def b_law_k06_2 : DL.S := (.seq (.asg 10 (.blt .len (.cons (.var 6) .nil))) (.seq (.asg 11 (.bin .mod (.bin .add (.bin .add (.var 9) (.int 1)) (.bin .mod (.ix (.var 4) (.int 51)) (.bin .sub (.var 10) (.int 1)))) (.var 10))) (.seq (.asg 12 (.call 4 (.cons (.var 3) (.cons (.var 9) (.cons (.var 11) .nil))))) (.seq (.ite (.cmp .ne (.call 4 (.cons (.var 3) (.cons (.var 11) (.cons (.var 9) .nil)))) (.var 12)) (.seq (.ret (.bl false)) .skip) .skip) (.seq (.ite (.cmp .eq (.var 12) (.tup (.cons .non (.cons .non .nil)))) (.seq (.for_ [13] false (.tup (.cons (.neg (.int 5000)) (.cons (.int 0) (.cons (.int 5000) .nil)))) b_law_k06_0) .skip) (.seq (.unp [14, 15] (.var 12)) (.seq (.ite (.nt (.chain .le .le (.var 14) (.call 7 (.cons (.var 7) (.cons (.var 9) (.cons (.var 11) .nil)))) (.var 15))) (.seq (.ret (.bl false)) .skip) .skip) (.seq (.asg 16 (.call 7 (.cons (.var 3) (.cons (.var 9) (.cons (.var 11) .nil))))) (.seq (.ite (.an (.cmp .isn (.var 16) .non) (.cmp .ne (.var 12) (.tup (.cons (.var 16) (.cons (.var 16) .nil))))) (.seq (.ret (.bl false)) .skip) .skip) (.seq (.for_ [13] false (.tup (.cons (.bin .sub (.var 14) (.int 2)) (.cons (.bin .sub (.var 14) (.int 1)) (.cons (.var 14) (.cons (.bin .fdiv (.bin .add (.var 14) (.var 15)) (.int 2)) (.cons (.var 15) (.cons (.bin .add (.var 15) (.int 1)) (.cons (.bin .add (.var 15) (.int 2)) .nil)))))))) b_law_k06_1) .skip)))))) .skip)))))
def b_law_k06_3 : DL.S := (.seq (.for_ [9] false (.rng1 (.blt .len (.cons (.var 6) .nil))) b_law_k06_2) .skip)
def b_law_k06_4 : DL.S := (.seq (.asg 4 (.call 0 (.cons (.var 0) (.cons (.var 1) (.cons (.int 60) (.cons (.int 27720) .nil)))))) (.seq (.unp [5, 6] (.call 1 (.cons (.var 4) (.cons (.bin .add (.int 2) (.bin .mod (.ix (.var 4) (.int 50)) (.int 5))) .nil)))) (.seq (.asg 7 (.call 2 (.cons (.var 5) (.cons (.var 6) .nil)))) (.seq (.for_ [3] false (.tup (.cons (.call 5 (.cons (.var 7) (.cons (.slA (.var 4) (.int 20)) (.cons (.int 2) .nil)))) (.cons (.call 5 (.cons (.var 7) (.cons (.slA (.var 4) (.int 30)) (.cons (.int 4) .nil)))) .nil))) b_law_k06_3) (.seq (.asg 8 (.call 3 (.cons (.var 7) (.cons (.slA (.var 4) (.int 40)) .nil)))) (.seq (.ite (.cmp .eq (.cmp .is (.call 4 (.cons (.var 8) (.cons (.int 0) (.cons (.int 1) .nil)))) .non) (.call 6 (.cons (.var 8) (.cons .dnew .nil)))) (.seq (.ret (.bl false)) .skip) .skip) .skip))))))
def m_law_k06 : DL.S := (.seq (.for_ [1] false (.rng1 (.int 6)) b_law_k06_4) (.seq (.ite (.cmp .ne (.call 4 (.cons (.tup (.cons (.tup (.cons (.int 12) (.cons (.int 13) (.cons (.int 14) .nil)))) (.cons (.tup (.cons (.int 14) (.cons (.int 15) .nil))) (.cons (.tup (.cons .non .nil)) .nil)))) (.cons (.int 2) (.cons (.int 3) .nil)))) (.tup (.cons (.int 15) (.cons (.int 17) .nil)))) (.seq (.ret (.bl false)) .skip) .skip) (.seq (.asg 2 (.tup (.cons .non (.cons .non (.cons .non .nil))))) (.seq (.asg 3 (.tup (.cons (.bin .add (.tup (.cons (.int 1) (.cons (.int 1) .nil))) (.var 2)) (.cons (.bin .add (.tup (.cons (.int 1) .nil)) (.var 2)) (.cons (.var 2) (.cons (.tup (.cons (.int 0) (.cons (.int 0) .nil))) (.cons (.tup (.cons (.int 1) .nil)) .nil))))))) (.seq (.ite (.orr (.cmp .ne (.call 4 (.cons (.var 3) (.cons (.int 0) (.cons (.int 3) .nil)))) (.tup (.cons (.neg (.int 1)) (.cons (.int 1) .nil)))) (.cmp .ne (.call 4 (.cons (.var 3) (.cons (.int 4) (.cons (.int 2) .nil)))) (.tup (.cons (.int 0) (.cons (.int 2) .nil))))) (.seq (.ret (.bl false)) .skip) .skip) (.seq (.ret (.an (.cmp .eq (.call 4 (.cons (.tup (.cons (.tup (.cons .non (.cons (.int 5) .nil))) (.cons (.tup (.cons .non .nil)) .nil))) (.cons (.int 0) (.cons (.int 1) .nil)))) (.tup (.cons .non (.cons .non .nil)))) (.cmp .eq (.call 4 (.cons (.tup (.cons (.tup (.cons (.int 12) (.cons (.int 13) .nil))) (.cons (.tup (.cons (.int 14) .nil)) .nil))) (.cons (.int 1) (.cons (.int 0) .nil)))) (.tup (.cons (.int 12) (.cons (.int 12) .nil)))))) .skip))))))
def G_law_k06 : List D → Option D := runF (phi [G__law_digits, G__law_weights, G__law_table, G__law_changed, G_pair_range, G__law_hidden, G__law_fits, G__law_entry, G__law_pair]) cs m_law_k06 19 1
/-- difference_range: slots 0=table 1=one 2=other 3=many 4=others 5=steps 6=first 7=second 8=low 9=more -/
def m_difference_range : DL.S := (.seq (.asg 3 (.bin .add (.blt .len (.cons (.var 0) .nil)) (.int 1))) (.seq (.asg 4 (.comp [9] [9] false (.rng1 (.var 3)) (.cmp .nin (.var 9) (.tup (.cons (.var 1) (.cons (.var 2) .nil)))) (.var 9))) (.seq (.asg 5 (.comp [9] [9] false (.var 4) (.bl true) (.bin .sub (.call 1 (.cons (.var 0) (.cons (.var 1) (.cons (.var 9) .nil)))) (.call 1 (.cons (.var 0) (.cons (.var 2) (.cons (.var 9) .nil))))))) (.seq (.par 6 7 .val .val (.call 0 (.cons (.var 0) (.cons (.var 1) .nil))) (.call 0 (.cons (.var 0) (.cons (.var 2) .nil)))) (.seq (.asg 8 (.blt .max (.cons (.lst (.cons (.bin .sub (.bin .mul (.int 2) (.blt .max (.cons (.var 5) .nil))) (.int 2)) (.cons (.bin .sub (.ix (.var 6) (.int 0)) (.ix (.var 7) (.int 1))) .nil))) .nil))) (.seq (.ret (.tup (.cons (.var 8) (.cons (.blt .min (.cons (.lst (.cons (.bin .add (.bin .mul (.int 2) (.blt .min (.cons (.var 5) .nil))) (.int 2)) (.cons (.bin .sub (.ix (.var 6) (.int 1)) (.ix (.var 7) (.int 0))) .nil))) .nil)) .nil)))) .skip))))))
def G_difference_range : List D → Option D := runF (phi [G_weight_range, G_entry_of]) cs m_difference_range 10 3
/-- _law_longer: slots 0=table 1=one 2=other 3=step 4=rows 5=last 6=parcel 7=entry 8=row -/
def b__law_longer_0 : DL.S := (.seq (.setL 4 (.var 6) (.bin .add (.slB (.ix (.var 4) (.var 6)) (.bin .sub (.bin .sub (.var 5) (.var 6)) (.int 1))) (.tup (.cons (.var 7) .nil)))) .skip)
def m__law_longer : DL.S := (.seq (.own .lst 4 (.bin .add (.comp [8] [8] false (.var 0) (.bl true) (.bin .add (.var 8) (.tup (.cons .non .nil)))) (.lst (.cons (.tup (.cons .non .nil)) .nil)))) (.seq (.asg 5 (.blt .len (.cons (.var 4) .nil))) (.seq (.for_ [6, 7] true (.tup (.cons (.tup (.cons (.var 1) (.cons (.bin .add (.int 70) (.var 3)) .nil))) (.cons (.tup (.cons (.var 2) (.cons (.int 70) .nil))) .nil))) b__law_longer_0) (.seq (.ret (.blt .toT (.cons (.var 4) .nil))) .skip))))
def G__law_longer : List D → Option D := runF (phi []) cs m__law_longer 9 4
/-- law_k07: slots 0=script 1=index 2=table 3=digits 4=unit 5=weights 6=one 7=other 8=low 9=high 10=true 11=steps 12=more 13=first 14=second 15=step 16=good -/
def b_law_k07_0 : DL.S := (.seq (.asg 16 (.an (.cmp .lt (.var 8) (.bin .add (.bin .mul (.int 2) (.var 15)) (.int 2))) (.cmp .lt (.bin .sub (.bin .mul (.int 2) (.var 15)) (.int 2)) (.var 9)))) (.seq (.asg 12 (.call 5 (.cons (.var 2) (.cons (.var 6) (.cons (.var 7) (.cons (.var 15) .nil)))))) (.seq (.ite (.an (.cmp .lt (.blt .len (.cons (.var 5) .nil)) (.int 6)) (.cmp .ne (.call 6 (.cons (.var 12) (.cons .dnew .nil))) (.var 16))) (.seq (.ret (.bl false)) .skip) .skip) .skip)))
def b_law_k07_1 : DL.S := (.seq (.ite (.cmp .nin (.var 12) (.tup (.cons (.var 6) (.cons (.var 7) .nil)))) (.seq (.app 11 (.bin .sub (.call 7 (.cons (.var 2) (.cons (.var 6) (.cons (.var 12) .nil)))) (.call 7 (.cons (.var 2) (.cons (.var 7) (.cons (.var 12) .nil)))))) .skip) .skip) .skip)
def b_law_k07_2 : DL.S := (.seq (.ite (.cmp .ne (.var 6) (.var 7)) (.seq (.unp [8, 9] (.call 3 (.cons (.var 2) (.cons (.var 6) (.cons (.var 7) .nil))))) (.seq (.asg 10 (.bin .mul (.int 2) (.bin .sub (.ix (.var 5) (.var 6)) (.ix (.var 5) (.var 7))))) (.seq (.ite (.nt (.chain .lt .lt (.bin .mul (.var 8) (.var 4)) (.var 10) (.bin .mul (.var 9) (.var 4)))) (.seq (.ret (.bl false)) .skip) .skip) (.seq (.ite (.cmp .ne (.call 3 (.cons (.var 2) (.cons (.var 7) (.cons (.var 6) .nil)))) (.tup (.cons (.bin .sub (.int 0) (.var 9)) (.cons (.bin .sub (.int 0) (.var 8)) .nil)))) (.seq (.ret (.bl false)) .skip) .skip) (.seq (.own .lst 11 (.lst .nil)) (.seq (.for_ [12] false (.rng1 (.blt .len (.cons (.var 5) .nil))) b_law_k07_1) (.seq (.asg 13 (.call 4 (.cons (.var 2) (.cons (.var 6) .nil)))) (.seq (.asg 14 (.call 4 (.cons (.var 2) (.cons (.var 7) .nil)))) (.seq (.ite (.cmp .ne (.var 8) (.blt .max (.cons (.bin .sub (.bin .mul (.int 2) (.blt .max (.cons (.var 11) .nil))) (.int 2)) (.cons (.bin .sub (.ix (.var 13) (.int 0)) (.ix (.var 14) (.int 1))) .nil)))) (.seq (.ret (.bl false)) .skip) .skip) (.seq (.ite (.cmp .ne (.var 9) (.blt .min (.cons (.bin .add (.bin .mul (.int 2) (.blt .min (.cons (.var 11) .nil))) (.int 2)) (.cons (.bin .sub (.ix (.var 13) (.int 1)) (.ix (.var 14) (.int 0))) .nil)))) (.seq (.ret (.bl false)) .skip) .skip) (.seq (.for_ [15] false (.rng2 (.bin .sub (.bin .fdiv (.var 8) (.int 2)) (.int 2)) (.bin .add (.bin .fdiv (.var 9) (.int 2)) (.int 3))) b_law_k07_0) .skip))))))))))) .skip) .skip)
def b_law_k07_3 : DL.S := (.seq (.for_ [7] false (.rng1 (.blt .len (.cons (.var 5) .nil))) b_law_k07_2) .skip)
def b_law_k07_4 : DL.S := (.seq (.asg 3 (.call 1 (.cons (.var 0) (.cons (.var 1) (.cons (.int 60) (.cons (.int 27720) .nil)))))) (.seq (.unp [4, 5] (.call 2 (.cons (.var 3) (.cons (.bin .add (.int 3) (.bin .mod (.ix (.var 3) (.int 50)) (.int 4))) .nil)))) (.seq (.asg 2 (.call 0 (.cons (.var 4) (.cons (.var 5) .nil)))) (.seq (.for_ [6] false (.rng1 (.blt .len (.cons (.var 5) .nil))) b_law_k07_3) .skip))))
def m_law_k07 : DL.S := (.seq (.for_ [1] false (.rng1 (.int 6)) b_law_k07_4) (.seq (.asg 2 (.call 0 (.cons (.int 100) (.cons (.tup (.cons (.int 25) (.cons (.int 25) (.cons (.int 75) (.cons (.int 75) (.cons (.int 70) (.cons (.int 70) .nil))))))) .nil)))) (.seq (.ite (.orr (.cmp .ne (.call 3 (.cons (.var 2) (.cons (.int 0) (.cons (.int 1) .nil)))) (.tup (.cons (.neg (.int 1)) (.cons (.int 1) .nil)))) (.cmp .ne (.call 4 (.cons (.var 2) (.cons (.int 0) .nil))) (.tup (.cons (.int 0) (.cons (.int 1) .nil))))) (.seq (.ret (.bl false)) .skip) .skip) (.seq (.ret (.an (.cmp .eq (.call 3 (.cons (.tup (.cons (.tup (.cons (.int 12) (.cons (.int 13) .nil))) (.cons (.tup (.cons (.int 14) .nil)) .nil))) (.cons (.int 0) (.cons (.int 1) .nil)))) (.tup (.cons (.neg (.int 4)) (.cons (.int 0) .nil)))) (.cmp .eq (.call 3 (.cons (.tup (.cons (.tup (.cons (.int 12) (.cons (.int 13) .nil))) (.cons (.tup (.cons (.int 14) .nil)) .nil))) (.cons (.int 2) (.cons (.int 0) .nil)))) (.tup (.cons (.int 2) (.cons (.int 6) .nil)))))) .skip))))
def G_law_k07 : List D → Option D := runF (phi [G__law_table, G__law_digits, G__law_weights, G_difference_range, G_weight_range, G__law_longer, G__law_fits, G__law_entry]) cs m_law_k07 17 1
/-- surely_heavier: slots 0=table 1=many 2=pairs 3=one 4=other 5=pair -/
def m_surely_heavier : DL.S := (.seq (.asg 1 (.bin .add (.blt .len (.cons (.var 0) .nil)) (.int 1))) (.seq (.asg 2 (.comp2 [3, 4] 3 4 (.rng1 (.var 1)) (.rng1 (.var 1)) (.cmp .ne (.var 3) (.var 4)) (.tup (.cons (.var 3) (.cons (.var 4) .nil))))) (.seq (.ret (.comp [5] [5] false (.var 2) (.cmp .ge (.ix (.call 0 (.cons (.var 0) (.cons (.ix (.var 5) (.int 0)) (.cons (.ix (.var 5) (.int 1)) .nil)))) (.int 0)) (.int 0)) (.var 5))) .skip)))
def G_surely_heavier : List D → Option D := runF (phi [G_difference_range]) cs m_surely_heavier 6 1
/-- solution: slots 0=table 1=found 2=many 3=heights 4=node 5=at 6=one -/
def b_solution_0 : DL.S := (.seq (.app 3 (.blt .min (.cons (.comp [6] [6] false (.rng1 (.bin .mul (.int 2) (.var 2))) (.din false (.tup (.cons (.var 6) (.cons (.var 4) .nil))) (.var 1)) (.dget (.var 1) (.tup (.cons (.var 6) (.cons (.var 4) .nil))))) .nil))) .skip)
def m_solution : DL.S := (.seq (.asg 1 (.call 0 (.cons (.var 0) .nil))) (.seq (.ite (.cmp .is (.var 1) .non) (.seq (.ret .non) .skip) .skip) (.seq (.asg 2 (.bin .add (.blt .len (.cons (.var 0) .nil)) (.int 1))) (.seq (.own .lst 3 (.lst .nil)) (.seq (.for_ [4] false (.rng1 (.bin .mul (.int 2) (.var 2))) b_solution_0) (.seq (.ret (.tup (.cons (.bin .mul (.int 2) (.con 0)) (.cons (.blt .toT (.cons (.comp [5] [5] false (.rng1 (.var 2)) (.bl true) (.bin .sub (.ix (.var 3) (.var 5)) (.ix (.var 3) (.bin .add (.var 2) (.var 5))))) .nil)) .nil)))) .skip))))))
def G_solution : List D → Option D := runF (phi [G_bounds]) cs m_solution 7 1
/-- _law_shown: slots 0=table 1=one 2=other 3=more -/
def b__law_shown_0 : DL.S := (.seq (.ite (.cmp .nin (.var 3) (.tup (.cons (.var 1) (.cons (.var 2) .nil)))) (.seq (.ite (.cmp .gt (.call 0 (.cons (.var 0) (.cons (.var 1) (.cons (.var 3) .nil)))) (.call 0 (.cons (.var 0) (.cons (.var 2) (.cons (.var 3) .nil))))) (.seq (.ret (.bl true)) .skip) .skip) .skip) .skip) .skip)
def m__law_shown : DL.S := (.seq (.for_ [3] false (.rng1 (.bin .add (.blt .len (.cons (.var 0) .nil)) (.int 1))) b__law_shown_0) (.seq (.ret (.bl false)) .skip))
def G__law_shown : List D → Option D := runF (phi [G__law_entry]) cs m__law_shown 4 3
/-- law_k08: slots 0=script 1=index 2=digits 3=unit 4=weights 5=table 6=many 7=found 8=due 9=one 10=parts 11=others 12=other 13=third -/
def b_law_k08_0 : DL.S := (.seq (.ite (.an (.cmp .ne (.var 9) (.var 12)) (.an (.cmp .nin (.tup (.cons (.var 9) (.cons (.var 12) .nil))) (.var 7)) (.cmp .ge (.ix (.call 6 (.cons (.var 5) (.cons (.var 9) (.cons (.var 12) .nil)))) (.int 0)) (.int 0)))) (.seq (.ret (.bl false)) .skip) .skip) .skip)
def b_law_k08_1 : DL.S := (.seq (.for_ [12] false (.rng1 (.var 6)) b_law_k08_0) .skip)
def b_law_k08_2 : DL.S := (.seq (.ite (.an (.cmp .inn (.tup (.cons (.var 12) (.cons (.var 13) .nil))) (.var 7)) (.cmp .nin (.tup (.cons (.var 9) (.cons (.var 13) .nil))) (.var 7))) (.seq (.ret (.bl false)) .skip) .skip) .skip)
def b_law_k08_3 : DL.S := (.seq (.ite (.orr (.cmp .le (.ix (.var 4) (.var 9)) (.ix (.var 4) (.var 12))) (.orr (.cmp .le (.ix (.var 11) (.var 9)) (.ix (.var 11) (.var 12))) (.cmp .inn (.tup (.cons (.var 12) (.cons (.var 9) .nil))) (.var 7)))) (.seq (.ret (.bl false)) .skip) .skip) (.seq (.ite (.cmp .lt (.ix (.call 6 (.cons (.var 5) (.cons (.var 9) (.cons (.var 12) .nil)))) (.int 0)) (.int 0)) (.seq (.ret (.bl false)) .skip) .skip) (.seq (.for_ [13] false (.rng1 (.var 6)) b_law_k08_2) .skip)))
def b_law_k08_4 : DL.S := (.seq (.ite (.an (.cmp .ne (.var 9) (.var 12)) (.call 5 (.cons (.var 5) (.cons (.var 9) (.cons (.var 12) .nil))))) (.seq (.app 8 (.tup (.cons (.var 9) (.cons (.var 12) .nil)))) .skip) .skip) .skip)
def b_law_k08_5 : DL.S := (.seq (.for_ [12] false (.rng1 (.var 6)) b_law_k08_4) .skip)
def b_law_k08_6 : DL.S := (.seq (.asg 2 (.call 0 (.cons (.var 0) (.cons (.var 1) (.cons (.int 60) (.cons (.int 27720) .nil)))))) (.seq (.unp [3, 4] (.call 1 (.cons (.var 2) (.cons (.bin .add (.int 3) (.bin .mod (.ix (.var 2) (.int 50)) (.int 4))) .nil)))) (.seq (.asg 5 (.call 2 (.cons (.var 3) (.cons (.var 4) .nil)))) (.seq (.par 6 7 .val .lst (.blt .len (.cons (.var 4) .nil)) (.call 4 (.cons (.var 5) .nil))) (.seq (.own .lst 8 (.lst .nil)) (.seq (.for_ [9] false (.rng1 (.var 6)) b_law_k08_5) (.seq (.ite (.orr (.cmp .ne (.var 7) (.var 8)) (.nt (.isi (.var 7) "list"))) (.seq (.ret (.bl false)) .skip) .skip) (.seq (.unp [10, 11] (.call 3 (.cons (.var 5) .nil))) (.seq (.fz 7 (.for_ [9, 12] true (.var 7) b_law_k08_3)) (.seq (.for_ [9] false (.rng1 (.var 6)) b_law_k08_1) (.seq (.app 7 .non) (.seq (.ite (.cmp .ne (.call 4 (.cons (.var 5) .nil)) (.var 8)) (.seq (.ret (.bl false)) .skip) .skip) .skip))))))))))))
def m_law_k08 : DL.S := (.seq (.for_ [1] false (.rng1 (.int 8)) b_law_k08_6) (.seq (.ret (.an (.cmp .eq (.call 4 (.cons (.tup (.cons (.tup (.cons (.int 12) (.cons (.int 13) .nil))) (.cons (.tup (.cons (.int 14) .nil)) .nil))) .nil)) (.lst (.cons (.tup (.cons (.int 1) (.cons (.int 0) .nil))) (.cons (.tup (.cons (.int 2) (.cons (.int 0) .nil))) (.cons (.tup (.cons (.int 2) (.cons (.int 1) .nil))) .nil))))) (.cmp .eq (.call 4 (.cons (.tup (.cons (.tup (.cons (.int 5) (.cons (.int 5) .nil))) (.cons (.tup (.cons (.int 5) .nil)) .nil))) .nil)) (.lst .nil)))) .skip))
def G_law_k08 : List D → Option D := runF (phi [G__law_digits, G__law_weights, G__law_table, G_solution, G_surely_heavier, G__law_shown, G_difference_range]) cs m_law_k08 14 1
/-- _law_has: slots 0=table 1=unit 2=weights 3=one 4=other 5=entry -/
def b__law_has_0 : DL.S := (.seq (.asg 5 (.call 0 (.cons (.var 0) (.cons (.var 3) (.cons (.var 4) .nil))))) (.seq (.ite (.an (.cmp .isn (.var 5) .non) (.cmp .ne (.bin .fdiv (.bin .add (.ix (.var 2) (.var 3)) (.ix (.var 2) (.var 4))) (.var 1)) (.var 5))) (.seq (.ret (.bl false)) .skip) .skip) .skip))
def b__law_has_1 : DL.S := (.seq (.for_ [4] false (.rng2 (.bin .add (.var 3) (.int 1)) (.blt .len (.cons (.var 2) .nil))) b__law_has_0) .skip)
def m__law_has : DL.S := (.seq (.for_ [3] false (.rng1 (.blt .len (.cons (.var 2) .nil))) b__law_has_1) (.seq (.ret (.bl true)) .skip))
def G__law_has : List D → Option D := runF (phi [G__law_entry]) cs m__law_has 6 3
/-- law_k09: slots 0=script 1=index 2=parts 3=others 4=digits 5=unit 6=weights 7=whole 8=k 9=table 10=often 11=found 12=good 13=parcel 14=weight 15=low 16=high -/
def b_law_k09_0 : DL.S := (.seq (.unp [15, 16] (.call 9 (.cons (.var 9) (.cons (.var 13) .nil)))) (.seq (.ite (.an (.cmp .isn (.var 15) .non) (.nt (.chain .lt .lt (.bin .mul (.var 15) (.var 2)) (.bin .mul (.int 2) (.var 14)) (.bin .mul (.var 16) (.var 2))))) (.seq (.ret (.bl false)) .skip) .skip) .skip))
def b_law_k09_1 : DL.S := (.seq (.asg 9 (.ife (.cmp .eq (.bin .mod (.var 8) (.int 2)) (.int 0)) (.var 7) (.call 5 (.cons (.var 7) (.cons (.slA (.var 4) (.bin .add (.int 14) (.bin .mul (.int 8) (.var 8)))) .nil))))) (.seq (.asg 10 (.bin .add (.int 2) (.bin .mod (.ix (.var 4) (.int 51)) (.int 3)))) (.seq (.asg 9 (.ife (.cmp .lt (.var 8) (.int 2)) (.var 9) (.call 6 (.cons (.var 9) (.cons (.slA (.var 4) (.int 25)) (.cons (.var 10) .nil)))))) (.seq (.par 11 12 .val .val (.call 0 (.cons (.var 9) .nil)) (.call 7 (.cons (.var 9) (.cons .dnew .nil)))) (.seq (.ite (.orr (.cmp .ne (.cmp .isn (.var 11) .non) (.var 12)) (.cmp .ne (.call 8 (.cons (.var 9) .nil)) (.var 12))) (.seq (.ret (.bl false)) .skip) .skip) (.seq (.ite (.cmp .isn (.var 11) .non) (.seq (.unp [2, 3] (.var 11)) (.seq (.ite (.orr (.nt (.isi (.var 3) "tuple")) (.orr (.cmp .ne (.blt .len (.cons (.var 3) .nil)) (.blt .len (.cons (.var 6) .nil))) (.cmp .lt (.var 2) (.int 1)))) (.seq (.ret (.bl false)) .skip) .skip) (.seq (.ite (.nt (.call 4 (.cons (.var 9) (.cons (.var 2) (.cons (.var 3) .nil))))) (.seq (.ret (.bl false)) .skip) .skip) (.seq (.for_ [13, 14] true (.enm (.var 3)) b_law_k09_0) .skip)))) .skip) .skip))))))
def b_law_k09_2 : DL.S := (.seq (.asg 4 (.call 1 (.cons (.var 0) (.cons (.var 1) (.cons (.int 60) (.cons (.int 27720) .nil)))))) (.seq (.unp [5, 6] (.call 2 (.cons (.var 4) (.cons (.bin .add (.int 2) (.bin .mod (.ix (.var 4) (.int 50)) (.int 5))) .nil)))) (.seq (.asg 7 (.call 3 (.cons (.var 5) (.cons (.var 6) .nil)))) (.seq (.for_ [8] false (.rng1 (.int 4)) b_law_k09_1) .skip))))
def m_law_k09 : DL.S := (.seq (.for_ [1] false (.rng1 (.int 8)) b_law_k09_2) (.seq (.ite (.cmp .isn (.call 0 (.cons (.tup (.cons (.tup (.cons (.int 1) (.cons (.int 1) (.cons (.int 1) .nil)))) (.cons (.tup (.cons (.int 1) (.cons (.int 1) .nil))) (.cons (.tup (.cons (.int 4) .nil)) .nil)))) .nil)) .non) (.seq (.ret (.bl false)) .skip) .skip) (.seq (.unp [2, 3] (.call 0 (.cons (.tup (.cons (.tup (.cons (.int 12) (.cons (.int 13) .nil))) (.cons (.tup (.cons (.int 14) .nil)) .nil))) .nil))) (.seq (.ret (.an (.call 4 (.cons (.tup (.cons (.tup (.cons (.int 12) (.cons (.int 13) .nil))) (.cons (.tup (.cons (.int 14) .nil)) .nil))) (.cons (.var 2) (.cons (.var 3) .nil)))) (.cmp .eq (.blt .len (.cons (.ix (.call 0 (.cons (.tup (.cons (.tup (.cons .non .nil)) .nil)) .nil)) (.int 1)) .nil)) (.int 2)))) .skip))))
def G_law_k09 : List D → Option D := runF (phi [G_solution, G__law_digits, G__law_weights, G__law_table, G__law_has, G__law_changed, G__law_hidden, G__law_fits, G_fits, G_weight_range]) cs m_law_k09 17 1
/-- without: slots 0=table 1=places 2=rows 3=one 4=row 5=line 6=place 7=entry -/
def b_without_0 : DL.S := (.seq (.asg 5 (.comp [6, 7] [6, 7] true (.enm (.var 4)) (.bl true) (.ife (.cmp .inn (.tup (.cons (.var 3) (.cons (.bin .add (.bin .add (.var 3) (.var 6)) (.int 1)) .nil))) (.var 1)) .non (.var 7)))) (.seq (.app 2 (.blt .toT (.cons (.var 5) .nil))) .skip))
def m_without : DL.S := (.seq (.own .lst 2 (.lst .nil)) (.seq (.for_ [3, 4] true (.enm (.var 0)) b_without_0) (.seq (.ret (.blt .toT (.cons (.var 2) .nil))) .skip)))
def G_without : List D → Option D := runF (phi []) cs m_without 8 2
/-- fewest_wrong: slots 0=table 1=sets 2=one 3=row 4=place 5=entry 6=some -/
def b_fewest_wrong_0 : DL.S := (.seq (.ite (.cmp .isn (.var 5) .non) (.seq (.asg 1 (.bin .add (.var 1) (.comp [6] [6] false (.var 1) (.bl true) (.bin .add (.var 6) (.tup (.cons (.tup (.cons (.var 2) (.cons (.bin .add (.bin .add (.var 2) (.var 4)) (.int 1)) .nil))) .nil)))))) .skip) .skip) .skip)
def b_fewest_wrong_1 : DL.S := (.seq (.for_ [4, 5] true (.enm (.var 3)) b_fewest_wrong_0) .skip)
def m_fewest_wrong : DL.S := (.seq (.asg 1 (.lst (.cons (.tup .nil) .nil))) (.seq (.for_ [2, 3] true (.enm (.var 0)) b_fewest_wrong_1) (.seq (.ret (.blt .min (.cons (.comp [6] [6] false (.var 1) (.call 0 (.cons (.call 1 (.cons (.var 0) (.cons (.var 6) .nil))) .nil)) (.blt .len (.cons (.var 6) .nil))) .nil))) .skip)))
def G_fewest_wrong : List D → Option D := runF (phi [G_fits, G_without]) cs m_fewest_wrong 7 1
/-- _law_least: slots 0=table 1=places 2=one 3=row 4=front 5=size 6=some 7=later 8=rows 9=place 10=entry -/
def b__law_least_0 : DL.S := (.seq (.asg 7 (.bin .add (.var 7) (.comp [9] [9] false (.var 1) (.orr (.cmp .eq (.var 6) (.tup .nil)) (.cmp .gt (.var 9) (.ix (.var 6) (.bin .sub (.blt .len (.cons (.var 6) .nil)) (.int 1))))) (.bin .add (.var 6) (.tup (.cons (.var 9) .nil)))))) .skip)
def b__law_least_1 : DL.S := (.seq (.app 8 (.blt .toT (.cons (.comp [9, 10] [9, 10] true (.enm (.var 3)) (.bl true) (.ife (.cmp .inn (.tup (.cons (.var 2) (.cons (.var 9) .nil))) (.var 6)) .non (.var 10))) .nil))) .skip)
def b__law_least_2 : DL.S := (.seq (.own .lst 8 (.lst .nil)) (.seq (.for_ [2, 3] true (.enm (.var 0)) b__law_least_1) (.seq (.ite (.call 0 (.cons (.blt .toT (.cons (.var 8) .nil)) (.cons .dnew .nil))) (.seq (.ret (.var 5)) .skip) .skip) .skip)))
def b__law_least_3 : DL.S := (.seq (.for_ [6] false (.var 4) b__law_least_2) (.seq (.asg 7 (.lst .nil)) (.seq (.for_ [6] false (.var 4) b__law_least_0) (.seq (.asg 4 (.var 7)) .skip))))
def b__law_least_4 : DL.S := (.seq (.asg 1 (.bin .add (.var 1) (.comp [9, 10] [9, 10] true (.enm (.var 3)) (.cmp .isn (.var 10) .non) (.tup (.cons (.var 2) (.cons (.var 9) .nil)))))) .skip)
def m__law_least : DL.S := (.seq (.asg 1 (.lst .nil)) (.seq (.for_ [2, 3] true (.enm (.var 0)) b__law_least_4) (.seq (.asg 4 (.lst (.cons (.tup .nil) .nil))) (.seq (.for_ [5] false (.rng1 (.bin .add (.blt .len (.cons (.var 1) .nil)) (.int 1))) b__law_least_3) (.seq (.ret .non) .skip)))))
def G__law_least : List D → Option D := runF (phi [G__law_fits]) cs m__law_least 11 1
/-- law_k10: slots 0=script 1=index 2=digits 3=unit 4=weights 5=whole 6=spoilt 7=worse 8=table 9=most 10=number -/
def b_law_k10_0 : DL.S := (.seq (.asg 10 (.call 5 (.cons (.var 8) .nil))) (.seq (.ite (.orr (.cmp .ne (.var 10) (.call 6 (.cons (.var 8) .nil))) (.orr (.cmp .gt (.var 10) (.var 9)) (.cmp .ne (.cmp .eq (.var 10) (.int 0)) (.call 7 (.cons (.var 8) .nil))))) (.seq (.ret (.bl false)) .skip) .skip) .skip))
def b_law_k10_1 : DL.S := (.seq (.asg 2 (.call 0 (.cons (.var 0) (.cons (.var 1) (.cons (.int 60) (.cons (.int 27720) .nil)))))) (.seq (.unp [3, 4] (.call 1 (.cons (.var 2) (.cons (.bin .add (.int 2) (.bin .mod (.ix (.var 2) (.int 50)) (.int 4))) .nil)))) (.seq (.asg 5 (.call 2 (.cons (.call 4 (.cons (.var 3) (.cons (.var 4) .nil))) (.cons (.slA (.var 2) (.int 20)) (.cons (.int 9) .nil))))) (.seq (.asg 6 (.call 3 (.cons (.var 5) (.cons (.slA (.var 2) (.int 30)) .nil)))) (.seq (.asg 7 (.call 3 (.cons (.var 6) (.cons (.slA (.var 2) (.int 40)) .nil)))) (.seq (.for_ [8, 9] true (.tup (.cons (.tup (.cons (.var 5) (.cons (.int 0) .nil))) (.cons (.tup (.cons (.var 6) (.cons (.int 2) .nil))) (.cons (.tup (.cons (.var 7) (.cons (.int 4) .nil))) .nil)))) b_law_k10_0) .skip))))))
def m_law_k10 : DL.S := (.seq (.for_ [1] false (.rng1 (.int 3)) b_law_k10_1) (.seq (.ite (.orr (.cmp .ne (.call 5 (.cons (.tup (.cons (.tup (.cons (.int 1) (.cons (.int 1) (.cons (.int 1) .nil)))) (.cons (.tup (.cons (.int 1) (.cons (.int 1) .nil))) (.cons (.tup (.cons (.int 4) .nil)) .nil)))) .nil)) (.int 1)) (.cmp .ne (.call 5 (.cons (.tup (.cons (.tup (.cons (.int 12) (.cons (.int 13) (.cons (.int 14) .nil)))) (.cons (.tup (.cons (.int 14) (.cons (.int 15) .nil))) (.cons (.tup (.cons (.int 16) .nil)) .nil)))) .nil)) (.int 0))) (.seq (.ret (.bl false)) .skip) .skip) (.seq (.ret (.an (.cmp .eq (.call 5 (.cons (.tup (.cons (.tup (.cons .non .nil)) .nil)) .nil)) (.int 0)) (.cmp .eq (.call 5 (.cons (.tup (.cons (.tup (.cons (.int 9) (.cons (.int 0) (.cons (.int 0) (.cons (.int 0) .nil))))) (.cons (.tup (.cons (.int 0) (.cons (.int 0) (.cons (.int 0) .nil)))) (.cons (.tup (.cons (.int 9) (.cons (.int 0) .nil))) (.cons (.tup (.cons (.int 0) .nil)) .nil))))) .nil)) (.int 2)))) .skip)))
def G_law_k10 : List D → Option D := runF (phi [G__law_digits, G__law_weights, G__law_hidden, G__law_changed, G__law_table, G_fewest_wrong, G__law_least, G_fits]) cs m_law_k10 11 1
/-- _law_more: slots 0=table 1=step 2=parcel 3=rows 4=one 5=row 6=line 7=place 8=entry 9=extra -/
def b__law_more_0 : DL.S := (.seq (.asg 9 (.bin .add (.var 1) (.bin .mul (.int 3) (.blt .toI (.cons (.cmp .inn (.var 2) (.tup (.cons (.var 4) (.cons (.bin .add (.bin .add (.var 4) (.var 7)) (.int 1)) .nil)))) .nil))))) (.seq (.app 6 (.ife (.cmp .is (.var 8) .non) .non (.bin .add (.var 8) (.var 9)))) .skip))
def b__law_more_1 : DL.S := (.seq (.own .lst 6 (.lst .nil)) (.seq (.for_ [7, 8] true (.enm (.var 5)) b__law_more_0) (.seq (.app 3 (.blt .toT (.cons (.var 6) .nil))) .skip)))
def m__law_more : DL.S := (.seq (.own .lst 3 (.lst .nil)) (.seq (.for_ [4, 5] true (.enm (.var 0)) b__law_more_1) (.seq (.ret (.blt .toT (.cons (.var 3) .nil))) .skip)))
def G__law_more : List D → Option D := runF (phi []) cs m__law_more 10 3
/-- _law_carried: slots 0=found 1=more -/
def m__law_carried : DL.S := (.seq (.ret (.ife (.cmp .inn (.var 0) (.tup (.cons .non (.cons (.tup (.cons .non (.cons .non .nil))) .nil)))) (.var 0) (.tup (.cons (.bin .add (.ix (.var 0) (.int 0)) (.var 1)) (.cons (.bin .add (.ix (.var 0) (.int 1)) (.var 1)) .nil))))) .skip)
def G__law_carried : List D → Option D := runF (phi []) cs m__law_carried 2 2
/-- law_k11: slots 0=script 1=index 2=digits 3=unit 4=weights 5=whole 6=many 7=step 8=parcel 9=turn_to 10=table 11=extra 12=found 13=more 14=other 15=place 16=a 17=b 18=k -/
def b_law_k11_0 : DL.S := (.seq (.asg 12 (.call 8 (.cons (.var 10) (.cons (.ix (.var 9) (.var 15)) .nil)))) (.seq (.ite (.cmp .ne (.call 8 (.cons (.var 14) (.cons (.var 15) .nil))) (.var 12)) (.seq (.ret (.bl false)) .skip) .skip) (.seq (.asg 11 (.bin .add (.var 7) (.bin .mul (.int 6) (.blt .toI (.cons (.cmp .eq (.ix (.var 9) (.var 15)) (.var 8)) .nil))))) (.seq (.ite (.cmp .ne (.call 8 (.cons (.var 13) (.cons (.ix (.var 9) (.var 15)) .nil))) (.call 7 (.cons (.var 12) (.cons (.var 11) .nil)))) (.seq (.ret (.bl false)) .skip) .skip) .skip))))
def b_law_k11_1 : DL.S := (.seq (.par 13 14 .val .val (.call 10 (.cons (.var 10) (.cons (.var 7) (.cons (.var 8) .nil)))) (.call 11 (.cons (.var 10) (.cons (.var 9) .nil)))) (.seq (.ite (.orr (.cmp .ne (.call 9 (.cons (.var 13) .nil)) (.call 9 (.cons (.var 10) .nil))) (.cmp .ne (.call 9 (.cons (.var 14) .nil)) (.call 9 (.cons (.var 10) .nil)))) (.seq (.ret (.bl false)) .skip) .skip) (.seq (.for_ [15] false (.rng1 (.var 6)) b_law_k11_0) (.seq (.par 16 17 .val .val (.ix (.var 9) (.int 0)) (.ix (.var 9) (.int 1))) (.seq (.asg 12 (.call 6 (.cons (.var 10) (.cons (.var 16) (.cons (.var 17) .nil))))) (.seq (.ite (.cmp .ne (.call 6 (.cons (.var 14) (.cons (.int 0) (.cons (.int 1) .nil)))) (.var 12)) (.seq (.ret (.bl false)) .skip) .skip) (.seq (.ite (.cmp .ne (.call 6 (.cons (.var 13) (.cons (.var 16) (.cons (.var 17) .nil)))) (.call 7 (.cons (.var 12) (.cons (.bin .add (.var 7) (.bin .mul (.int 3) (.blt .toI (.cons (.cmp .inn (.var 8) (.tup (.cons (.var 16) (.cons (.var 17) .nil)))) .nil)))) .nil)))) (.seq (.ret (.bl false)) .skip) .skip) .skip)))))))
def b_law_k11_2 : DL.S := (.seq (.asg 2 (.call 0 (.cons (.var 0) (.cons (.var 1) (.cons (.int 60) (.cons (.int 27720) .nil)))))) (.seq (.unp [3, 4] (.call 1 (.cons (.var 2) (.cons (.bin .add (.int 3) (.bin .mod (.ix (.var 2) (.int 50)) (.int 4))) .nil)))) (.seq (.par 5 6 .val .val (.call 3 (.cons (.var 3) (.cons (.var 4) .nil))) (.blt .len (.cons (.var 4) .nil))) (.seq (.par 7 8 .val .val (.bin .sub (.bin .mod (.ix (.var 2) (.int 51)) (.int 40)) (.int 20)) (.bin .mod (.ix (.var 2) (.int 52)) (.var 6))) (.seq (.asg 9 (.blt .toT (.cons (.comp [18] [18] false (.rng1 (.var 6)) (.bl true) (.bin .mod (.bin .add (.ix (.var 2) (.int 53)) (.var 18)) (.var 6))) .nil))) (.seq (.for_ [10] false (.tup (.cons (.var 5) (.cons (.call 4 (.cons (.var 5) (.cons (.slA (.var 2) (.int 20)) (.cons (.int 3) .nil)))) (.cons (.call 5 (.cons (.var 5) (.cons (.slA (.var 2) (.int 30)) .nil))) .nil)))) b_law_k11_1) (.seq (.ite (.cmp .ne (.call 2 (.cons (.call 11 (.cons (.var 5) (.cons (.var 9) .nil))) (.cons (.int 0) (.cons (.int 1) .nil)))) (.call 2 (.cons (.var 5) (.cons (.ix (.var 9) (.int 0)) (.cons (.ix (.var 9) (.int 1)) .nil))))) (.seq (.ret (.bl false)) .skip) .skip) (.seq (.asg 11 (.bin .mul (.int 6) (.bin .sub (.blt .toI (.cons (.cmp .eq (.ix (.var 9) (.int 0)) (.var 8)) .nil)) (.blt .toI (.cons (.cmp .eq (.ix (.var 9) (.int 1)) (.var 8)) .nil))))) (.seq (.asg 12 (.call 2 (.cons (.var 5) (.cons (.ix (.var 9) (.int 0)) (.cons (.ix (.var 9) (.int 1)) .nil))))) (.seq (.ite (.cmp .ne (.call 2 (.cons (.call 10 (.cons (.var 5) (.cons (.var 7) (.cons (.var 8) .nil)))) (.cons (.ix (.var 9) (.int 0)) (.cons (.ix (.var 9) (.int 1)) .nil)))) (.call 7 (.cons (.var 12) (.cons (.var 11) .nil)))) (.seq (.ret (.bl false)) .skip) .skip) (.seq (.ite (.orr (.cmp .isn (.call 12 (.cons (.call 10 (.cons (.var 5) (.cons (.var 7) (.cons (.var 8) .nil)))) .nil)) (.bl true)) (.cmp .ne (.call 13 (.cons (.call 11 (.cons (.var 5) (.cons (.var 9) .nil))) .nil)) (.lst .nil))) (.seq (.ret (.bl false)) .skip) .skip) .skip)))))))))))
def m_law_k11 : DL.S := (.seq (.for_ [1] false (.rng1 (.int 8)) b_law_k11_2) (.seq (.ret (.an (.cmp .eq (.call 8 (.cons (.tup (.cons (.tup (.cons (.int 13) (.cons (.int 14) .nil))) (.cons (.tup (.cons (.int 15) .nil)) .nil))) (.cons (.int 0) .nil))) (.tup (.cons (.int 11) (.cons (.int 14) .nil)))) (.cmp .is (.call 9 (.cons (.tup (.cons (.tup (.cons (.int 2) (.cons (.int 2) (.cons (.int 2) .nil)))) (.cons (.tup (.cons (.int 2) (.cons (.int 2) .nil))) (.cons (.tup (.cons (.int 5) .nil)) .nil)))) .nil)) (.bl false)))) .skip))
def G_law_k11 : List D → Option D := runF (phi [G__law_digits, G__law_weights, G_difference_range, G__law_table, G__law_hidden, G__law_changed, G_pair_range, G__law_carried, G_weight_range, G_fits, G__law_more, G_renamed, G_is_real, G__law_fours]) cs m_law_k11 19 1
/-- _law_rounded: slots 0=unit 1=weights 2=kind 3=rows 4=one 5=line 6=other 7=total 8=whole 9=rest -/
def b__law_rounded_0 : DL.S := (.seq (.asg 7 (.bin .add (.ix (.var 1) (.var 4)) (.var 6))) (.seq (.asg 8 (.bin .fdiv (.var 7) (.var 0))) (.seq (.asg 9 (.bin .sub (.var 7) (.bin .mul (.var 8) (.var 0)))) (.seq (.app 5 (.bin .add (.var 8) (.blt .toI (.cons (.ife (.cmp .eq (.var 2) (.str "up")) (.cmp .gt (.var 9) (.int 0)) (.cmp .ge (.bin .mul (.int 2) (.var 9)) (.var 0))) .nil)))) .skip))))
def b__law_rounded_1 : DL.S := (.seq (.own .lst 5 (.lst .nil)) (.seq (.for_ [6] false (.slA (.var 1) (.bin .add (.var 4) (.int 1))) b__law_rounded_0) (.seq (.app 3 (.blt .toT (.cons (.var 5) .nil))) .skip)))
def m__law_rounded : DL.S := (.seq (.own .lst 3 (.lst .nil)) (.seq (.for_ [4] false (.rng1 (.bin .sub (.blt .len (.cons (.var 1) .nil)) (.int 1))) b__law_rounded_1) (.seq (.ret (.blt .toT (.cons (.var 3) .nil))) .skip)))
def G__law_rounded : List D → Option D := runF (phi []) cs m__law_rounded 10 3
/-- law_k12: slots 0=script 1=index 2=digits 3=unit 4=weights 5=up 6=near 7=double 8=table 9=parts 10=others 11=less 12=weight -/
def b_law_k12_0 : DL.S := (.seq (.asg 2 (.call 0 (.cons (.var 0) (.cons (.var 1) (.cons (.int 60) (.cons (.int 27720) .nil)))))) (.seq (.unp [3, 4] (.call 1 (.cons (.var 2) (.cons (.bin .add (.int 2) (.bin .mod (.ix (.var 2) (.int 50)) (.int 5))) .nil)))) (.seq (.asg 5 (.call 2 (.cons (.var 3) (.cons (.var 4) (.cons (.str "up") .nil))))) (.seq (.asg 6 (.call 2 (.cons (.var 3) (.cons (.var 4) (.cons (.str "nearest") .nil))))) (.seq (.ite (.orr (.nt (.call 6 (.cons (.var 5) .nil))) (.orr (.nt (.call 6 (.cons (.var 6) .nil))) (.orr (.cmp .isn (.call 7 (.cons (.var 5) .nil)) .non) (.cmp .isn (.call 7 (.cons (.var 6) .nil)) .non)))) (.seq (.ret (.bl false)) .skip) .skip) (.seq (.asg 7 (.blt .toT (.cons (.comp [12] [12] false (.var 4) (.bl true) (.bin .mul (.int 2) (.var 12))) .nil))) (.seq (.ite (.cmp .ne (.var 5) (.call 5 (.cons (.bin .mul (.int 2) (.var 3)) (.cons (.blt .toT (.cons (.comp [12] [12] false (.var 7) (.bl true) (.bin .sub (.bin .add (.var 12) (.var 3)) (.int 1))) .nil)) .nil)))) (.seq (.ret (.bl false)) .skip) .skip) (.seq (.ite (.cmp .ne (.var 6) (.call 5 (.cons (.bin .mul (.int 2) (.var 3)) (.cons (.blt .toT (.cons (.comp [12] [12] false (.var 7) (.bl true) (.bin .add (.var 12) (.bin .fdiv (.var 3) (.int 2)))) .nil)) .nil)))) (.seq (.ret (.bl false)) .skip) .skip) (.seq (.asg 8 (.call 3 (.cons (.var 3) (.cons (.var 4) .nil)))) (.seq (.unp [9, 10] (.call 4 (.cons (.var 8) .nil))) (.seq (.asg 11 (.blt .toT (.cons (.comp [12] [12] false (.var 10) (.bl true) (.bin .add (.bin .sub (.bin .mul (.int 2) (.var 12)) (.var 9)) (.int 1))) .nil))) (.seq (.ite (.cmp .ne (.call 2 (.cons (.bin .mul (.int 2) (.var 9)) (.cons (.var 11) (.cons (.str "up") .nil)))) (.var 8)) (.seq (.ret (.bl false)) .skip) .skip) (.seq (.ite (.cmp .ne (.call 5 (.cons (.var 3) (.cons (.var 4) .nil))) (.var 8)) (.seq (.ret (.bl false)) .skip) .skip) .skip)))))))))))))
def m_law_k12 : DL.S := (.seq (.for_ [1] false (.rng1 (.int 8)) b_law_k12_0) (.seq (.ret (.an (.cmp .eq (.call 2 (.cons (.int 2) (.cons (.tup (.cons (.int 1) (.cons (.int 2) .nil))) (.cons (.str "nearest") .nil)))) (.tup (.cons (.tup (.cons (.int 2) .nil)) .nil))) (.cmp .eq (.call 5 (.cons (.int 4) (.cons (.tup (.cons (.int 3) (.cons (.int 5) (.cons (.int 7) .nil)))) .nil))) (.tup (.cons (.tup (.cons (.int 2) (.cons (.int 2) .nil))) (.cons (.tup (.cons (.int 3) .nil)) .nil)))))) .skip))
def G_law_k12 : List D → Option D := runF (phi [G__law_digits, G__law_weights, G__law_rounded, G__law_table, G_solution, G_shown, G_is_real, G_clash]) cs m_law_k12 13 1
/-- _law_with: slots 0=table 1=one 2=other 3=entry 4=place 5=line -/
def m__law_with : DL.S := (.seq (.asg 4 (.bin .sub (.bin .sub (.var 2) (.var 1)) (.int 1))) (.seq (.asg 5 (.bin .add (.bin .add (.slB (.ix (.var 0) (.var 1)) (.var 4)) (.tup (.cons (.var 3) .nil))) (.slA (.ix (.var 0) (.var 1)) (.bin .add (.var 4) (.int 1))))) (.seq (.ret (.bin .add (.bin .add (.slB (.var 0) (.var 1)) (.tup (.cons (.var 5) .nil))) (.slA (.var 0) (.bin .add (.var 1) (.int 1))))) .skip)))
def G__law_with : List D → Option D := runF (phi []) cs m__law_with 6 4
/-- _law_due_k13: slots 0=table 1=one 2=other 3=lows 4=highs 5=others 6=at 7=a 8=b 9=more 10=far 11=first 12=second -/
def b__law_due_k13_0 : DL.S := (.seq (.asg 10 (.call 0 (.cons (.var 0) (.cons (.var 7) (.cons (.var 8) .nil))))) (.seq (.asg 11 (.bin .sub (.bin .add (.call 0 (.cons (.var 0) (.cons (.var 1) (.cons (.var 7) .nil)))) (.call 0 (.cons (.var 0) (.cons (.var 2) (.cons (.var 8) .nil))))) (.var 10))) (.seq (.asg 12 (.bin .sub (.bin .add (.call 0 (.cons (.var 0) (.cons (.var 1) (.cons (.var 8) .nil)))) (.call 0 (.cons (.var 0) (.cons (.var 2) (.cons (.var 7) .nil))))) (.var 10))) (.seq (.asg 3 (.bin .add (.var 3) (.lst (.cons (.bin .sub (.var 11) (.int 1)) (.cons (.bin .sub (.var 12) (.int 1)) .nil))))) (.seq (.asg 4 (.bin .add (.var 4) (.lst (.cons (.bin .add (.var 11) (.int 1)) (.cons (.bin .add (.var 12) (.int 1)) .nil))))) .skip)))))
def b__law_due_k13_1 : DL.S := (.seq (.for_ [8] false (.slA (.var 5) (.bin .add (.var 6) (.int 1))) b__law_due_k13_0) .skip)
def m__law_due_k13 : DL.S := (.seq (.par 3 4 .val .val (.lst .nil) (.lst .nil)) (.seq (.asg 5 (.comp [9] [9] false (.rng1 (.bin .add (.blt .len (.cons (.var 0) .nil)) (.int 1))) (.cmp .nin (.var 9) (.tup (.cons (.var 1) (.cons (.var 2) .nil)))) (.var 9))) (.seq (.for_ [6, 7] true (.enm (.var 5)) b__law_due_k13_1) (.seq (.ret (.tup (.cons (.blt .max (.cons (.var 3) .nil)) (.cons (.blt .min (.cons (.var 4) .nil)) .nil)))) .skip))))
def G__law_due_k13 : List D → Option D := runF (phi [G__law_entry]) cs m__law_due_k13 13 3
/-- law_k13: slots 0=script 1=index 2=digits 3=unit 4=weights 5=table 6=k 7=one 8=other 9=gap 10=low 11=high 12=entry -/
def b_law_k13_0 : DL.S := (.seq (.ite (.cmp .ne (.call 6 (.cons (.call 4 (.cons (.var 5) (.cons (.var 7) (.cons (.var 8) (.cons (.var 12) .nil))))) .nil)) (.chain .le .le (.var 10) (.var 12) (.var 11))) (.seq (.ret (.bl false)) .skip) .skip) .skip)
def b_law_k13_1 : DL.S := (.seq (.asg 7 (.bin .mod (.ix (.var 2) (.bin .add (.int 51) (.var 6))) (.bin .sub (.blt .len (.cons (.var 4) .nil)) (.int 1)))) (.seq (.asg 8 (.bin .add (.bin .add (.var 7) (.int 1)) (.bin .mod (.ix (.var 2) (.bin .add (.int 54) (.var 6))) (.bin .sub (.bin .sub (.blt .len (.cons (.var 4) .nil)) (.int 1)) (.var 7))))) (.seq (.asg 9 (.call 4 (.cons (.var 5) (.cons (.var 7) (.cons (.var 8) (.cons .non .nil)))))) (.seq (.unp [10, 11] (.call 3 (.cons (.var 9) (.cons (.var 7) (.cons (.var 8) .nil))))) (.seq (.ite (.orr (.cmp .ne (.tup (.cons (.var 10) (.cons (.var 11) .nil))) (.call 5 (.cons (.var 5) (.cons (.var 7) (.cons (.var 8) .nil))))) (.nt (.chain .le .le (.var 10) (.call 9 (.cons (.var 5) (.cons (.var 7) (.cons (.var 8) .nil)))) (.var 11)))) (.seq (.ret (.bl false)) .skip) .skip) (.seq (.for_ [12] false (.rng2 (.bin .sub (.var 10) (.int 2)) (.bin .add (.var 11) (.int 3))) b_law_k13_0) (.seq (.ite (.orr (.nt (.call 7 (.cons (.var 9) .nil))) (.nt (.chain .le .le (.var 10) (.call 9 (.cons (.call 8 (.cons (.var 9) .nil)) (.cons (.var 7) (.cons (.var 8) .nil)))) (.var 11)))) (.seq (.ret (.bl false)) .skip) .skip) (.seq (.ite (.cmp .ne (.call 4 (.cons (.call 8 (.cons (.var 9) .nil)) (.cons (.var 7) (.cons (.var 8) (.cons .non .nil))))) (.var 9)) (.seq (.ret (.bl false)) .skip) .skip) .skip))))))))
def b_law_k13_2 : DL.S := (.seq (.asg 2 (.call 0 (.cons (.var 0) (.cons (.var 1) (.cons (.int 60) (.cons (.int 27720) .nil)))))) (.seq (.unp [3, 4] (.call 1 (.cons (.var 2) (.cons (.bin .add (.int 4) (.bin .mod (.ix (.var 2) (.int 50)) (.int 3))) .nil)))) (.seq (.asg 5 (.call 2 (.cons (.var 3) (.cons (.var 4) .nil)))) (.seq (.for_ [6] false (.rng1 (.int 3)) b_law_k13_1) .skip))))
def m_law_k13 : DL.S := (.seq (.for_ [1] false (.rng1 (.int 8)) b_law_k13_2) (.seq (.ite (.cmp .ne (.call 3 (.cons (.tup (.cons (.tup (.cons .non (.cons (.int 3) .nil))) (.cons (.tup (.cons (.int 4) .nil)) .nil))) (.cons (.int 0) (.cons (.int 1) .nil)))) (.tup (.cons .non (.cons .non .nil)))) (.seq (.ret (.bl false)) .skip) .skip) (.seq (.ret (.cmp .eq (.call 3 (.cons (.tup (.cons (.tup (.cons .non (.cons (.int 13) (.cons (.int 14) .nil)))) (.cons (.tup (.cons (.int 14) (.cons (.int 15) .nil))) (.cons (.tup (.cons (.int 16) .nil)) .nil)))) (.cons (.int 0) (.cons (.int 1) .nil)))) (.tup (.cons (.int 11) (.cons (.int 13) .nil))))) .skip)))
def G_law_k13 : List D → Option D := runF (phi [G__law_digits, G__law_weights, G__law_table, G_pair_range, G__law_with, G__law_due_k13, G_is_real, G_fits, G_filled, G__law_entry]) cs m_law_k13 13 1
/-- _law_count: slots 0=table 1=found 2=row 3=entry -/
def b__law_count_0 : DL.S := (.seq (.asg 1 (.bin .add (.var 1) (.blt .len (.cons (.comp [3] [3] false (.var 2) (.cmp .isn (.var 3) .non) (.var 3)) .nil)))) .skip)
def m__law_count : DL.S := (.seq (.asg 1 (.int 0)) (.seq (.for_ [2] false (.var 0) b__law_count_0) (.seq (.ret (.var 1)) .skip)))
def G__law_count : List D → Option D := runF (phi []) cs m__law_count 4 1
/-- _law_is_name: slots 0=value 1=sign -/
def m__law_is_name : DL.S := (.seq (.ite (.orr (.nt (.isi (.var 0) "str")) (.nt (.chain .le .le (.int 1) (.blt .len (.cons (.var 0) .nil)) (.int 8)))) (.seq (.ret (.bl false)) .skip) .skip) (.seq (.ret (.cmp .eq (.comp [1] [1] false (.var 0) (.cmp .nin (.var 1) (.str "abcdefghijklmnopqrstuvwxyz")) (.var 1)) (.lst .nil))) .skip))
def G__law_is_name : List D → Option D := runF (phi []) cs m__law_is_name 2 1
/-- _law_copied: slots 0=table 1=parcel 2=both 3=many 4=rows 5=one 6=last -/
def b__law_copied_0 : DL.S := (.seq (.asg 6 (.ife (.cmp .eq (.var 5) (.var 1)) (.var 2) (.call 0 (.cons (.var 0) (.cons (.var 1) (.cons (.var 5) .nil)))))) (.seq (.app 4 (.bin .add (.ife (.cmp .lt (.var 5) (.bin .sub (.var 3) (.int 1))) (.ix (.var 0) (.var 5)) (.tup .nil)) (.tup (.cons (.var 6) .nil)))) .skip))
def m__law_copied : DL.S := (.seq (.asg 3 (.bin .add (.blt .len (.cons (.var 0) .nil)) (.int 1))) (.seq (.own .lst 4 (.lst .nil)) (.seq (.for_ [5] false (.rng1 (.var 3)) b__law_copied_0) (.seq (.ret (.blt .toT (.cons (.var 4) .nil))) .skip))))
def G__law_copied : List D → Option D := runF (phi [G__law_entry]) cs m__law_copied 7 3
/-- law_k17: slots 0=script 1=index 2=table 3=digits 4=unit 5=weights 6=parcel 7=low 8=high 9=both 10=copied 11=doubled -/
def b_law_k17_0 : DL.S := (.seq (.ite (.cmp .ne (.call 5 (.cons (.call 4 (.cons (.var 2) (.cons (.var 6) (.cons (.var 9) .nil)))) .nil)) (.chain .le .lt (.var 7) (.var 9) (.var 8))) (.seq (.ret (.bl false)) .skip) .skip) .skip)
def b_law_k17_1 : DL.S := (.seq (.unp [7, 8] (.call 3 (.cons (.var 2) (.cons (.var 6) .nil)))) (.seq (.for_ [9] false (.rng2 (.bin .sub (.var 7) (.int 2)) (.bin .add (.var 8) (.int 2))) b_law_k17_0) (.seq (.asg 10 (.call 4 (.cons (.var 2) (.cons (.var 6) (.cons .non .nil))))) (.seq (.ite (.cmp .ne (.call 6 (.cons (.var 10) (.cons (.var 6) (.cons (.blt .len (.cons (.var 5) .nil)) .nil)))) (.tup (.cons (.var 7) (.cons (.bin .sub (.var 8) (.int 1)) .nil)))) (.seq (.ret (.bl false)) .skip) .skip) (.seq (.ite (.orr (.cmp .ne (.call 3 (.cons (.var 10) (.cons (.var 6) .nil))) (.tup (.cons (.var 7) (.cons (.var 8) .nil)))) (.cmp .ne (.call 3 (.cons (.var 10) (.cons (.blt .len (.cons (.var 5) .nil)) .nil))) (.tup (.cons (.var 7) (.cons (.var 8) .nil))))) (.seq (.ret (.bl false)) .skip) .skip) (.seq (.asg 11 (.bin .fdiv (.bin .mul (.int 2) (.ix (.var 5) (.var 6))) (.var 4))) (.seq (.ite (.orr (.nt (.chain .le .lt (.var 7) (.var 11) (.var 8))) (.nt (.call 5 (.cons (.call 4 (.cons (.var 2) (.cons (.var 6) (.cons (.var 11) .nil)))) .nil)))) (.seq (.ret (.bl false)) .skip) .skip) .skip)))))))
def b_law_k17_2 : DL.S := (.seq (.asg 3 (.call 0 (.cons (.var 0) (.cons (.var 1) (.cons (.int 60) (.cons (.int 27720) .nil)))))) (.seq (.unp [4, 5] (.call 1 (.cons (.var 3) (.cons (.bin .add (.int 3) (.bin .mod (.ix (.var 3) (.int 50)) (.int 3))) .nil)))) (.seq (.asg 2 (.call 2 (.cons (.var 4) (.cons (.var 5) .nil)))) (.seq (.for_ [6] false (.rng1 (.blt .len (.cons (.var 5) .nil))) b_law_k17_1) .skip))))
def m_law_k17 : DL.S := (.seq (.for_ [1] false (.rng1 (.int 8)) b_law_k17_2) (.seq (.asg 2 (.tup (.cons (.tup (.cons (.int 12) (.cons (.int 13) .nil))) (.cons (.tup (.cons (.int 14) .nil)) .nil)))) (.seq (.ret (.cmp .eq (.comp [9] [9] false (.tup (.cons (.int 9) (.cons (.int 10) (.cons (.int 12) (.cons (.int 13) .nil))))) (.bl true) (.call 5 (.cons (.call 4 (.cons (.var 2) (.cons (.int 0) (.cons (.var 9) .nil)))) .nil))) (.lst (.cons (.bl false) (.cons (.bl true) (.cons (.bl true) (.cons (.bl false) .nil))))))) .skip)))
def G_law_k17 : List D → Option D := runF (phi [G__law_digits, G__law_weights, G__law_table, G_weight_range, G__law_copied, G_is_real, G_pair_range]) cs m_law_k17 12 1
/-- _law_part: slots 0=table 1=kept 2=rows 3=at 4=one 5=other -/
def b__law_part_0 : DL.S := (.seq (.app 2 (.blt .toT (.cons (.comp [5] [5] false (.slA (.var 1) (.bin .add (.var 3) (.int 1))) (.bl true) (.ix (.ix (.var 0) (.var 4)) (.bin .sub (.bin .sub (.var 5) (.var 4)) (.int 1)))) .nil))) .skip)
def m__law_part : DL.S := (.seq (.own .lst 2 (.lst .nil)) (.seq (.for_ [3, 4] true (.enm (.slB (.var 1) (.neg (.int 1)))) b__law_part_0) (.seq (.ret (.blt .toT (.cons (.var 2) .nil))) .skip)))
def G__law_part : List D → Option D := runF (phi []) cs m__law_part 6 2
/-- _law_apart: slots 0=one 1=other 2=gap -/
def m__law_apart : DL.S := (.seq (.asg 2 (.tup (.cons .non (.cons .non (.cons .non .nil))))) (.seq (.ret (.tup (.cons (.bin .add (.ix (.var 0) (.int 0)) (.var 2)) (.cons (.bin .add (.ix (.var 0) (.int 1)) (.var 2)) (.cons (.var 2) (.cons (.ix (.var 1) (.int 0)) (.cons (.ix (.var 1) (.int 1)) .nil))))))) .skip))
def G__law_apart : List D → Option D := runF (phi []) cs m__law_apart 3 2
/-- law_k19: slots 0=script 1=index 2=table 3=digits 4=one 5=other 6=first 7=second 8=a 9=b 10=low 11=high 12=entry -/
def b_law_k19_0 : DL.S := (.seq (.asg 10 (.bin .add (.ix (.call 7 (.cons (.var 6) (.cons (.var 8) .nil))) (.int 0)) (.ix (.call 7 (.cons (.var 7) (.cons (.var 9) .nil))) (.int 0)))) (.seq (.asg 11 (.bin .add (.ix (.call 7 (.cons (.var 6) (.cons (.var 8) .nil))) (.int 1)) (.ix (.call 7 (.cons (.var 7) (.cons (.var 9) .nil))) (.int 1)))) (.seq (.ite (.cmp .ne (.call 6 (.cons (.var 2) (.cons (.var 8) (.cons (.bin .add (.int 3) (.var 9)) .nil)))) (.tup (.cons (.bin .fdiv (.var 10) (.int 2)) (.cons (.bin .sub (.bin .fdiv (.bin .add (.var 11) (.int 1)) (.int 2)) (.int 1)) .nil)))) (.seq (.ret (.bl false)) .skip) .skip) (.seq (.ite (.cmp .ne (.call 6 (.cons (.var 2) (.cons (.bin .add (.int 3) (.var 9)) (.cons (.var 8) .nil)))) (.tup (.cons (.bin .fdiv (.var 10) (.int 2)) (.cons (.bin .sub (.bin .fdiv (.bin .add (.var 11) (.int 1)) (.int 2)) (.int 1)) .nil)))) (.seq (.ret (.bl false)) .skip) .skip) (.seq (.asg 12 (.call 8 (.cons (.var 6) (.cons (.var 8) (.cons (.var 9) .nil))))) (.seq (.ite (.an (.cmp .ne (.var 8) (.var 9)) (.cmp .ne (.call 6 (.cons (.var 2) (.cons (.var 8) (.cons (.var 9) .nil)))) (.tup (.cons (.var 12) (.cons (.var 12) .nil))))) (.seq (.ret (.bl false)) .skip) .skip) .skip))))))
def b_law_k19_1 : DL.S := (.seq (.ite (.cmp .ne (.call 7 (.cons (.var 2) (.cons (.var 8) .nil))) (.call 7 (.cons (.var 6) (.cons (.var 8) .nil)))) (.seq (.ret (.bl false)) .skip) .skip) (.seq (.ite (.cmp .ne (.call 7 (.cons (.var 2) (.cons (.bin .add (.int 3) (.var 8)) .nil))) (.call 7 (.cons (.var 7) (.cons (.var 8) .nil)))) (.seq (.ret (.bl false)) .skip) .skip) (.seq (.for_ [9] false (.rng1 (.int 3)) b_law_k19_0) .skip)))
def b_law_k19_2 : DL.S := (.seq (.asg 3 (.call 1 (.cons (.var 0) (.cons (.var 1) (.cons (.int 60) (.cons (.int 27720) .nil)))))) (.seq (.par 4 5 .val .val (.call 2 (.cons (.var 3) (.cons (.int 3) .nil))) (.call 2 (.cons (.slA (.var 3) (.int 20)) (.cons (.int 3) .nil)))) (.seq (.par 6 7 .val .val (.call 3 (.cons (.ix (.var 4) (.int 0)) (.cons (.ix (.var 4) (.int 1)) .nil))) (.call 3 (.cons (.ix (.var 5) (.int 0)) (.cons (.ix (.var 5) (.int 1)) .nil)))) (.seq (.asg 2 (.call 0 (.cons (.var 6) (.cons (.var 7) .nil)))) (.seq (.ite (.nt (.call 4 (.cons (.var 2) .nil))) (.seq (.ret (.bl false)) .skip) .skip) (.seq (.for_ [8] false (.rng1 (.int 3)) b_law_k19_1) (.seq (.ite (.nt (.call 5 (.cons (.call 9 (.cons (.var 2) .nil)) .nil))) (.seq (.ret (.bl false)) .skip) .skip) .skip)))))))
def m_law_k19 : DL.S := (.seq (.for_ [1] false (.rng1 (.int 8)) b_law_k19_2) (.seq (.asg 2 (.call 0 (.cons (.tup (.cons (.tup (.cons (.int 1) (.cons (.int 1) .nil))) (.cons (.tup (.cons (.int 1) .nil)) .nil))) (.cons (.tup (.cons (.tup (.cons (.int 0) (.cons (.int 0) .nil))) (.cons (.tup (.cons (.int 1) .nil)) .nil))) .nil)))) (.seq (.ite (.orr (.cmp .ne (.call 6 (.cons (.var 2) (.cons (.int 0) (.cons (.int 3) .nil)))) (.tup (.cons (.neg (.int 1)) (.cons (.int 1) .nil)))) (.cmp .ne (.call 6 (.cons (.var 2) (.cons (.int 4) (.cons (.int 2) .nil)))) (.tup (.cons (.int 0) (.cons (.int 2) .nil))))) (.seq (.ret (.bl false)) .skip) .skip) (.seq (.ret (.an (.cmp .eq (.call 7 (.cons (.var 2) (.cons (.int 0) .nil))) (.tup (.cons (.int 0) (.cons (.int 3) .nil)))) (.cmp .eq (.call 7 (.cons (.var 2) (.cons (.int 3) .nil))) (.tup (.cons (.neg (.int 2)) (.cons (.int 1) .nil)))))) .skip))))
def G_law_k19 : List D → Option D := runF (phi [G__law_apart, G__law_digits, G__law_weights, G__law_table, G_fits, G_is_real, G_pair_range, G_weight_range, G__law_entry, G_filled]) cs m_law_k19 13 1
/-- _law_three_right: slots 0=more 1=table -/
def m__law_three_right : DL.S := (.seq (.asg 1 (.tup (.cons (.tup (.cons (.bin .add (.int 12) (.var 0)) (.cons (.bin .add (.int 13) (.var 0)) .nil))) (.cons (.tup (.cons (.bin .add (.int 14) (.var 0)) .nil)) .nil)))) (.seq (.ite (.orr (.cmp .isn (.call 2 (.cons (.var 1) .nil)) (.bl true)) (.orr (.cmp .ne (.call 3 (.cons (.var 1) (.cons (.int 2) (.cons (.int 1) .nil)))) (.bin .add (.int 14) (.var 0))) (.nt (.call 4 (.cons (.var 1) .nil))))) (.seq (.ret (.bl false)) .skip) .skip) (.seq (.ite (.cmp .ne (.call 0 (.cons (.var 1) (.cons (.tup (.cons (.int 2) (.cons (.int 1) (.cons (.int 0) .nil)))) .nil))) (.tup (.cons (.tup (.cons (.bin .add (.int 14) (.var 0)) (.cons (.bin .add (.int 13) (.var 0)) .nil))) (.cons (.tup (.cons (.bin .add (.int 12) (.var 0)) .nil)) .nil)))) (.seq (.ret (.bl false)) .skip) .skip) (.seq (.ite (.cmp .ne (.call 1 (.cons (.int 2) (.cons (.tup (.cons (.bin .add (.int 11) (.var 0)) (.cons (.bin .add (.int 13) (.var 0)) (.cons (.bin .add (.int 15) (.var 0)) .nil)))) .nil))) (.var 1)) (.seq (.ret (.bl false)) .skip) .skip) (.seq (.ite (.orr (.cmp .ne (.call 5 (.cons (.var 1) (.cons (.int 0) .nil))) (.tup (.cons (.bin .add (.int 10) (.var 0)) (.cons (.bin .add (.int 13) (.var 0)) .nil)))) (.cmp .ne (.call 6 (.cons (.var 1) (.cons (.int 0) (.cons (.int 1) .nil)))) (.tup (.cons (.bin .add (.int 12) (.var 0)) (.cons (.bin .add (.int 12) (.var 0)) .nil))))) (.seq (.ret (.bl false)) .skip) .skip) (.seq (.ite (.orr (.cmp .ne (.call 7 (.cons (.var 1) (.cons (.int 0) (.cons (.int 1) .nil)))) (.tup (.cons (.neg (.int 4)) (.cons (.int 0) .nil)))) (.cmp .ne (.call 7 (.cons (.var 1) (.cons (.int 2) (.cons (.int 0) .nil)))) (.tup (.cons (.int 2) (.cons (.int 6) .nil))))) (.seq (.ret (.bl false)) .skip) .skip) (.seq (.ret (.an (.cmp .eq (.call 8 (.cons (.var 1) .nil)) (.lst (.cons (.tup (.cons (.int 1) (.cons (.int 0) .nil))) (.cons (.tup (.cons (.int 2) (.cons (.int 0) .nil))) (.cons (.tup (.cons (.int 2) (.cons (.int 1) .nil))) .nil))))) (.cmp .eq (.blt .len (.cons (.ix (.call 9 (.cons (.var 1) .nil)) (.int 1)) .nil)) (.int 3)))) .skip)))))))
def G__law_three_right : List D → Option D := runF (phi [G_renamed, G_shown, G_is_table, G_entry_of, G_is_whole, G_weight_range, G_pair_range, G_difference_range, G_surely_heavier, G_solution]) cs m__law_three_right 2 1
/-- _law_four_right: slots 0=more 1=table 2=total 3=gap 4=bad -/
def m__law_four_right : DL.S := (.seq (.asg 1 (.tup (.cons (.tup (.cons (.bin .add (.int 12) (.var 0)) (.cons (.bin .add (.int 13) (.var 0)) (.cons (.bin .add (.int 14) (.var 0)) .nil)))) (.cons (.tup (.cons (.bin .add (.int 14) (.var 0)) (.cons (.bin .add (.int 15) (.var 0)) .nil))) (.cons (.tup (.cons (.bin .add (.int 16) (.var 0)) .nil)) .nil))))) (.seq (.asg 2 (.bin .add (.int 28) (.bin .mul (.int 2) (.var 0)))) (.seq (.ite (.orr (.cmp .ne (.call 1 (.cons (.var 1) (.cons (.int 0) (.cons (.int 1) (.cons (.int 2) (.cons (.int 3) .nil)))))) (.tup (.cons (.var 2) (.cons (.var 2) (.cons (.var 2) .nil))))) (.cmp .isn (.call 2 (.cons (.var 1) .nil)) (.bl true))) (.seq (.ret (.bl false)) .skip) .skip) (.seq (.asg 3 (.tup (.cons (.tup (.cons (.bin .add (.int 12) (.var 0)) (.cons (.bin .add (.int 13) (.var 0)) (.cons (.bin .add (.int 14) (.var 0)) .nil)))) (.cons (.tup (.cons (.bin .add (.int 14) (.var 0)) (.cons (.bin .add (.int 15) (.var 0)) .nil))) (.cons (.tup (.cons .non .nil)) .nil))))) (.seq (.ite (.orr (.nt (.call 0 (.cons (.var 3) .nil))) (.orr (.cmp .ne (.call 3 (.cons (.var 3) (.cons (.int 2) (.cons (.int 3) .nil)))) (.tup (.cons (.bin .add (.int 15) (.var 0)) (.cons (.bin .add (.int 17) (.var 0)) .nil)))) (.cmp .ne (.call 4 (.cons (.var 1) .nil)) (.int 0)))) (.seq (.ret (.bl false)) .skip) .skip) (.seq (.asg 4 (.tup (.cons (.tup (.cons (.bin .add (.int 1) (.var 0)) (.cons (.bin .add (.int 1) (.var 0)) (.cons (.bin .add (.int 1) (.var 0)) .nil)))) (.cons (.tup (.cons (.bin .add (.int 1) (.var 0)) (.cons (.bin .add (.int 1) (.var 0)) .nil))) (.cons (.tup (.cons (.bin .add (.int 4) (.var 0)) .nil)) .nil))))) (.seq (.ite (.orr (.cmp .ne (.call 5 (.cons (.var 4) .nil)) (.tup (.cons (.int 0) (.cons (.int 1) (.cons (.int 2) (.cons (.int 3) .nil)))))) (.orr (.call 0 (.cons (.var 4) .nil)) (.orr (.cmp .isn (.call 6 (.cons (.var 4) .nil)) .non) (.cmp .ne (.call 4 (.cons (.var 4) .nil)) (.int 1))))) (.seq (.ret (.bl false)) .skip) .skip) (.seq (.ret (.an (.cmp .is (.call 7 (.cons (.var 4) (.cons (.int 0) .nil))) .non) (.cmp .is (.call 8 (.cons (.var 4) .nil)) .non))) .skip))))))))
def G__law_four_right : List D → Option D := runF (phi [G_fits, G_three_sums, G_is_real, G_pair_range, G_fewest_wrong, G_clash, G_filled, G_weight_range, G_solution]) cs m__law_four_right 5 1
end PW
/-! DL14: the evaluator by equations. -/
namespace DL
/-- a loop over items -/
def loop (Φ : Nat → List D → Option D) (cs : Nat → Int) (tg : List Nat) (pair : Bool) (body : S) (ds : List D) (st : State) : Option Rs := forL (fun d st => onS (bindS st tg pair d) (ex Φ cs body)) ds st
section
variable {Φ : Nat → List D → Option D} {cs : Nat → Int} {ρ : Env} {st : State}
@[simp] theorem ev_var (i : Nat) : ev Φ cs (.var i) ρ = (ρ[i]?).getD none := by
  show (match ρ[i]? with | some (some d) => some d | _ => none) = _
  cases ρ[i]? with
  | none => rfl
  | some o => cases o <;> rfl
@[simp] theorem ev_int (i : Int) : ev Φ cs (.int i) ρ = some (.int i) := Eq.trans rfl rfl
@[simp] theorem ev_bl (b : Bool) : ev Φ cs (.bl b) ρ = some (.bl b) := Eq.trans rfl rfl
@[simp] theorem ev_non : ev Φ cs .non ρ = some .non := Eq.trans rfl rfl
@[simp] theorem ev_str (s : PySem.Str) : ev Φ cs (.str s) ρ = some (.str s) := Eq.trans rfl rfl
@[simp] theorem ev_con (j : Nat) : ev Φ cs (.con j) ρ = some (.int (cs j)) := Eq.trans rfl rfl
@[simp] theorem ev_nil : ev Φ cs .nil ρ = some (.lst []) := Eq.trans rfl rfl
@[simp] theorem ev_cons (a r : E) : ev Φ cs (.cons a r) ρ = op2 consD (ev Φ cs a ρ) (ev Φ cs r ρ) := Eq.trans rfl rfl
@[simp] theorem ev_tup (r : E) : ev Φ cs (.tup r) ρ = opL (fun ds => if ds.length ≤ lim then some (.tup ds) else none) (ev Φ cs r ρ) := Eq.trans rfl rfl
@[simp] theorem ev_lst (r : E) : ev Φ cs (.lst r) ρ = opL (fun ds => if ds.length ≤ lim then some (.lst ds) else none) (ev Φ cs r ρ) := Eq.trans rfl rfl
@[simp] theorem ev_dnew : ev Φ cs .dnew ρ = some (.dic []) := Eq.trans rfl rfl
@[simp] theorem ev_d1 (k v : E) : ev Φ cs (.d1 k v) ρ = op2 d1D (ev Φ cs k ρ) (ev Φ cs v ρ) := Eq.trans rfl rfl
@[simp] theorem ev_d2 (k v k2 v2 : E) : ev Φ cs (.d2 k v k2 v2) ρ = d2O (ev Φ cs k ρ) (ev Φ cs v ρ) (ev Φ cs k2 ρ) (ev Φ cs v2 ρ) := Eq.trans rfl rfl
@[simp] theorem ev_back (a : E) : ev Φ cs (.back a) ρ = op1 backD (ev Φ cs a ρ) := Eq.trans rfl rfl
@[simp] theorem ev_ktup (a : E) : ev Φ cs (.ktup a) ρ = op1 ktupD (ev Φ cs a ρ) := Eq.trans rfl rfl
@[simp] theorem ev_tix (a b : E) : ev Φ cs (.tix a b) ρ = op2 tixD (ev Φ cs a ρ) (ev Φ cs b ρ) := Eq.trans rfl rfl
@[simp] theorem ev_kit (a : E) : ev Φ cs (.kit a) ρ = op1 kitD (ev Φ cs a ρ) := Eq.trans rfl rfl
@[simp] theorem ev_bin (op : Bop) (a b : E) : ev Φ cs (.bin op a b) ρ = op2 (binD op) (ev Φ cs a ρ) (ev Φ cs b ρ) := Eq.trans rfl rfl
@[simp] theorem ev_neg (a : E) : ev Φ cs (.neg a) ρ = op1 negD (ev Φ cs a ρ) := Eq.trans rfl rfl
@[simp] theorem ev_nt (a : E) : ev Φ cs (.nt a) ρ = op1 notD (ev Φ cs a ρ) := Eq.trans rfl rfl
@[simp] theorem ev_an (a b : E) : ev Φ cs (.an a b) ρ = andD (ev Φ cs a ρ) (ev Φ cs b ρ) := Eq.trans rfl rfl
@[simp] theorem ev_orr (a b : E) : ev Φ cs (.orr a b) ρ = orD (ev Φ cs a ρ) (ev Φ cs b ρ) := Eq.trans rfl rfl
@[simp] theorem ev_cmp (op : Cop) (a b : E) : ev Φ cs (.cmp op a b) ρ = op2 (cmpD op) (ev Φ cs a ρ) (ev Φ cs b ρ) := Eq.trans rfl rfl
@[simp] theorem ev_chain (op op' : Cop) (a b d : E) : ev Φ cs (.chain op op' a b d) ρ = chainD op op' (ev Φ cs a ρ) (ev Φ cs b ρ) (ev Φ cs d ρ) := Eq.trans rfl rfl
@[simp] theorem ev_din (ng : Bool) (k d : E) : ev Φ cs (.din ng k d) ρ = op2 (dinD ng) (ev Φ cs k ρ) (ev Φ cs d ρ) := Eq.trans rfl rfl
@[simp] theorem ev_ife (t a b : E) : ev Φ cs (.ife t a b) ρ = ifD (ev Φ cs t ρ) (ev Φ cs a ρ) (ev Φ cs b ρ) := Eq.trans rfl rfl
@[simp] theorem ev_blt (f : Blt) (r : E) : ev Φ cs (.blt f r) ρ = opL (bltD f) (ev Φ cs r ρ) := Eq.trans rfl rfl
@[simp] theorem ev_isi (a : E) (T : String) : ev Φ cs (.isi a T) ρ = op1 (fun x => isiD x T) (ev Φ cs a ρ) := Eq.trans rfl rfl
@[simp] theorem ev_ix (a b : E) : ev Φ cs (.ix a b) ρ = op2 ixD (ev Φ cs a ρ) (ev Φ cs b ρ) := Eq.trans rfl rfl
@[simp] theorem ev_dget (d k : E) : ev Φ cs (.dget d k) ρ = op2 dgetD (ev Φ cs d ρ) (ev Φ cs k ρ) := Eq.trans rfl rfl
@[simp] theorem ev_dget2 (d k x : E) : ev Φ cs (.dget2 d k x) ρ = op3 dget2D (ev Φ cs d ρ) (ev Φ cs k ρ) (ev Φ cs x ρ) := Eq.trans rfl rfl
@[simp] theorem ev_sl (a : E) : ev Φ cs (.sl a) ρ = op1 (fun x => sliceD x none none) (ev Φ cs a ρ) := Eq.trans rfl rfl
@[simp] theorem ev_slA (a lo : E) : ev Φ cs (.slA a lo) ρ = op2 slAD (ev Φ cs a ρ) (ev Φ cs lo ρ) := Eq.trans rfl rfl
@[simp] theorem ev_slB (a hi : E) : ev Φ cs (.slB a hi) ρ = op2 slBD (ev Φ cs a ρ) (ev Φ cs hi ρ) := Eq.trans rfl rfl
@[simp] theorem ev_slAB (a lo hi : E) : ev Φ cs (.slAB a lo hi) ρ = op3 slABD (ev Φ cs a ρ) (ev Φ cs lo ρ) (ev Φ cs hi ρ) := Eq.trans rfl rfl
@[simp] theorem ev_lrng (a : E) : ev Φ cs (.lrng a) ρ = op1 lrngD (ev Φ cs a ρ) := Eq.trans rfl rfl
@[simp] theorem ev_trng (a : E) : ev Φ cs (.trng a) ρ = op1 trngD (ev Φ cs a ρ) := Eq.trans rfl rfl
@[simp] theorem ev_call (f : Nat) (r : E) : ev Φ cs (.call f r) ρ = opL (Φ f) (ev Φ cs r ρ) := Eq.trans rfl rfl
@[simp] theorem ev_rng1 (a : E) : ev Φ cs (.rng1 a) ρ = op1 rng1D (ev Φ cs a ρ) := Eq.trans rfl rfl
@[simp] theorem ev_rng2 (a b : E) : ev Φ cs (.rng2 a b) ρ = op2 rng2D (ev Φ cs a ρ) (ev Φ cs b ρ) := Eq.trans rfl rfl
@[simp] theorem ev_enm (a : E) : ev Φ cs (.enm a) ρ = op1 enmD (ev Φ cs a ρ) := Eq.trans rfl rfl
@[simp] theorem ev_zp (a b : E) : ev Φ cs (.zp a b) ρ = op2 zpD (ev Φ cs a ρ) (ev Φ cs b ρ) := Eq.trans rfl rfl
theorem ev_comp (vs tg : List Nat) (pair : Bool) (it t e : E) : ev Φ cs (.comp vs tg pair it t e) ρ = capL (onI (capI (itemsO (ev Φ cs it ρ))) (compL fun d => onE (bindT (wipeE ρ vs) tg pair d) fun ρ' => testD (ev Φ cs t ρ') (ev Φ cs e ρ'))) := rfl
theorem ev_comp2 (vs : List Nat) (j j1 : Nat) (it it1 t e : E) : ev Φ cs (.comp2 vs j j1 it it1 t e) ρ = capL (onI (capI (itemsO (ev Φ cs it ρ))) (compL2 fun d => onI (capI (itemsO (ev Φ cs it1 ((wipeE ρ vs).set j (some d))))) (compL fun d1 =>
      testD (ev Φ cs t ((wipeE ((wipeE ρ vs).set j (some d)) [j1]).set j1 (some d1))) (ev Φ cs e ((wipeE ((wipeE ρ vs).set j (some d)) [j1]).set j1 (some d1)))))) := rfl
@[simp] theorem phi_0 (g : List D → Option D) (l : List (List D → Option D)) : phi (g :: l) 0 = g := Eq.trans rfl rfl
@[simp] theorem phi_s (g : List D → Option D) (l : List (List D → Option D)) (i : Nat) : phi (g :: l) (i + 1) = phi l i := Eq.trans rfl rfl
@[simp] theorem op1_s (g : D → Option D) (x : D) : op1 g (some x) = g x := Eq.trans rfl rfl
@[simp] theorem op2_s (g : D → D → Option D) (x y : D) : op2 g (some x) (some y) = g x y := Eq.trans rfl rfl
@[simp] theorem op3_s (g : D → D → D → Option D) (x y z : D) : op3 g (some x) (some y) (some z) = g x y z := Eq.trans rfl rfl
@[simp] theorem opL_s (g : List D → Option D) (ds : List D) : opL g (some (.lst ds)) = g ds := Eq.trans rfl rfl
@[simp] theorem op1_n (g : D → Option D) : op1 g none = none := Eq.trans rfl rfl
@[simp] theorem op2_n (g : D → D → Option D) (y : Option D) : op2 g none y = none := by cases y <;> rfl
@[simp] theorem op2_n2 (g : D → D → Option D) (x : Option D) : op2 g x none = none := by cases x <;> rfl
@[simp] theorem opL_n (g : List D → Option D) : opL g none = none := Eq.trans rfl rfl
@[simp] theorem andD_n (y : Option D) : andD none y = none := Eq.trans rfl rfl
@[simp] theorem orD_n (y : Option D) : orD none y = none := Eq.trans rfl rfl
@[simp] theorem ifD_n (x y : Option D) : ifD none x y = none := Eq.trans rfl rfl
@[simp] theorem consD_s (d : D) (ds : List D) : consD d (.lst ds) = some (.lst (d :: ds)) := Eq.trans rfl rfl
@[simp] theorem negD_i (i : Int) : negD (.int i) = some (.int (-i)) := Eq.trans rfl rfl
@[simp] theorem notD_b (b : Bool) : notD (.bl b) = some (.bl (!b)) := Eq.trans rfl rfl
@[simp] theorem andD_t (y : Option D) : andD (some (.bl true)) y = y := Eq.trans rfl rfl
@[simp] theorem andD_f (y : Option D) : andD (some (.bl false)) y = some (.bl false) := Eq.trans rfl rfl
@[simp] theorem orD_t (y : Option D) : orD (some (.bl true)) y = some (.bl true) := Eq.trans rfl rfl
@[simp] theorem orD_f (y : Option D) : orD (some (.bl false)) y = y := Eq.trans rfl rfl
theorem andD_b (b c : Bool) : andD (some (.bl b)) (some (.bl c)) = some (.bl (b && c)) := by cases b <;> rfl
theorem orD_b (b c : Bool) : orD (some (.bl b)) (some (.bl c)) = some (.bl (b || c)) := by cases b <;> rfl
@[simp] theorem ifD_t (x y : Option D) : ifD (some (.bl true)) x y = x := Eq.trans rfl rfl
@[simp] theorem ifD_f (x y : Option D) : ifD (some (.bl false)) x y = y := Eq.trans rfl rfl
theorem ifD_b (b : Bool) (x y : Option D) : ifD (some (.bl b)) x y = if b = true then x else y := by cases b <;> rfl
@[simp] theorem binD_add : binD .add = addD := Eq.trans rfl rfl
@[simp] theorem binD_sub : binD .sub = subD := Eq.trans rfl rfl
@[simp] theorem binD_mul : binD .mul = mulD := Eq.trans rfl rfl
@[simp] theorem binD_fdiv : binD .fdiv = fdivD := Eq.trans rfl rfl
@[simp] theorem binD_mod : binD .mod = modD := Eq.trans rfl rfl
@[simp] theorem binD_pow : binD .pow = powD := Eq.trans rfl rfl
@[simp] theorem cmpD_eq : cmpD .eq = eqD := Eq.trans rfl rfl
@[simp] theorem cmpD_ne : cmpD .ne = neD := Eq.trans rfl rfl
@[simp] theorem cmpD_lt : cmpD .lt = ltD := Eq.trans rfl rfl
@[simp] theorem cmpD_le : cmpD .le = leD := Eq.trans rfl rfl
@[simp] theorem cmpD_gt : cmpD .gt = gtD := Eq.trans rfl rfl
@[simp] theorem cmpD_ge : cmpD .ge = geD := Eq.trans rfl rfl
@[simp] theorem cmpD_is : cmpD .is = isD := Eq.trans rfl rfl
@[simp] theorem cmpD_isn : cmpD .isn = isNotD := Eq.trans rfl rfl
@[simp] theorem cmpD_inn : cmpD .inn = inD := Eq.trans rfl rfl
@[simp] theorem cmpD_nin : cmpD .nin = ninD := Eq.trans rfl rfl
@[simp] theorem bltD_len : bltD .len = lenD := Eq.trans rfl rfl
@[simp] theorem bltD_max : bltD .max = maxD := Eq.trans rfl rfl
@[simp] theorem bltD_min : bltD .min = minD := Eq.trans rfl rfl
@[simp] theorem bltD_all : bltD .all = allD := Eq.trans rfl rfl
@[simp] theorem bltD_toL : bltD .toL = toLD := Eq.trans rfl rfl
@[simp] theorem bltD_toT : bltD .toT = toTD := Eq.trans rfl rfl
@[simp] theorem bltD_toI : bltD .toI = toID := Eq.trans rfl rfl
@[simp] theorem bltD_toB : bltD .toB = toBD := Eq.trans rfl rfl
@[simp] theorem addD_i (i j : Int) : addD (.int i) (.int j) = some (.int (i + j)) := Eq.trans rfl rfl
@[simp] theorem subD_i (i j : Int) : subD (.int i) (.int j) = some (.int (i - j)) := Eq.trans rfl rfl
@[simp] theorem ltD_i (i j : Int) : ltD (.int i) (.int j) = some (.bl (decide (i < j))) := Eq.trans rfl rfl
@[simp] theorem leD_i (i j : Int) : leD (.int i) (.int j) = some (.bl (decide (i ≤ j))) := Eq.trans rfl rfl
@[simp] theorem gtD_i (i j : Int) : gtD (.int i) (.int j) = some (.bl (decide (j < i))) := Eq.trans rfl rfl
@[simp] theorem geD_i (i j : Int) : geD (.int i) (.int j) = some (.bl (decide (j ≤ i))) := Eq.trans rfl rfl
@[simp] theorem isD_n (x : D) : isD x .non = some (.bl (isNonD x)) := by cases x <;> rfl
@[simp] theorem isD_b (a b : Bool) : isD (.bl a) (.bl b) = some (.bl (a == b)) := by cases a <;> cases b <;> rfl
@[simp] theorem isNotD_n (x : D) : isNotD x .non = some (.bl (!isNonD x)) := by cases x <;> rfl
@[simp] theorem isNotD_b (a b : Bool) : isNotD (.bl a) (.bl b) = some (.bl (!(a == b))) := by cases a <;> cases b <;> rfl
@[simp] theorem modD_i (i j : Int) : modD (.int i) (.int j) = if decide (j ≠ 0) then some (.int (i.fmod j)) else none := Eq.trans rfl rfl
@[simp] theorem fdivD_i (i j : Int) : fdivD (.int i) (.int j) = if small30 j then some (.int (i.fdiv j)) else none := Eq.trans rfl rfl
@[simp] theorem mulD_i (i j : Int) : mulD (.int i) (.int j) = if mid i || mid j then some (.int (i * j)) else none := Eq.trans rfl rfl
@[simp] theorem lenD_l (xs : List D) : lenD [.lst xs] = some (.int xs.length) := Eq.trans rfl rfl
@[simp] theorem lenD_t (xs : List D) : lenD [.tup xs] = some (.int xs.length) := Eq.trans rfl rfl
@[simp] theorem lenD_s (xs : List Int) : lenD [.scr xs] = some (.int xs.length) := Eq.trans rfl rfl
@[simp] theorem ixD_l (xs : List D) (i : Int) : ixD (.lst xs) (.int i) = L2.atI xs i := Eq.trans rfl rfl
@[simp] theorem ixD_t (xs : List D) (i : Int) : ixD (.tup xs) (.int i) = L2.atI xs i := Eq.trans rfl rfl
@[simp] theorem maxD_2 (i j : Int) : maxD [.int i, .int j] = some (.int (max i j)) := Eq.trans rfl rfl
@[simp] theorem minD_2 (i j : Int) : minD [.int i, .int j] = some (.int (min i j)) := Eq.trans rfl rfl
@[simp] theorem maxD_3 (i j k : Int) : maxD [.int i, .int j, .int k] = some (.int (max i (max j k))) := by
  show some (D.int (max (max i j) k)) = _
  rw [show max (max i j) k = max i (max j k) by omega]
@[simp] theorem minD_3 (i j k : Int) : minD [.int i, .int j, .int k] = some (.int (min i (min j k))) := by
  show some (D.int (min (min i j) k)) = _
  rw [show min (min i j) k = min i (min j k) by omega]
@[simp] theorem maxD_l2 (i j : Int) : maxD [.lst [.int i, .int j]] = some (.int (max i j)) := Eq.trans rfl rfl
@[simp] theorem minD_l2 (i j : Int) : minD [.lst [.int i, .int j]] = some (.int (min i j)) := Eq.trans rfl rfl
/-! statements -/
@[simp] theorem ex_skip : ex Φ cs .skip st = some (.nx st) := Eq.trans rfl rfl
@[simp] theorem ex_seq (a b : S) : ex Φ cs (.seq a b) st = thenS (ex Φ cs a st) (ex Φ cs b) := Eq.trans rfl rfl
@[simp] theorem ex_asg (i : Nat) (e : E) : ex Φ cs (.asg i e) st = setS st i (valS (retain (ev Φ cs e) st)) := Eq.trans rfl rfl
@[simp] theorem ex_own (k : Kd) (i : Nat) (e : E) : ex Φ cs (.own k i e) st = setS st i (evK Φ cs k e st) := Eq.trans rfl rfl
@[simp] theorem ex_frz (i j : Nat) : ex Φ cs (.frz i j) st = frzS st i j := Eq.trans rfl rfl
@[simp] theorem ex_par (i j : Nat) (ka kb : Kd) (a b : E) : ex Φ cs (.par i j ka kb a b) st = setS2 st i j (evK Φ cs ka a st) (evK Φ cs kb b st) := Eq.trans rfl rfl
@[simp] theorem ex_unp (tg : List Nat) (e : E) : ex Φ cs (.unp tg e) st = unpS (ev Φ cs e) st tg := Eq.trans rfl rfl
@[simp] theorem ex_app (i : Nat) (e : E) : ex Φ cs (.app i e) st = appS st i (retain (ev Φ cs e) st) := Eq.trans rfl rfl
@[simp] theorem ex_appP (i j : Nat) (k : E) : ex Φ cs (.appP i j k) st = appPS st i j (ev Φ cs k (snapE st)) := Eq.trans rfl rfl
@[simp] theorem ex_appF (i j : Nat) : ex Φ cs (.appF i j) st = appFS st i j := Eq.trans rfl rfl
@[simp] theorem ex_setL (i : Nat) (k e : E) : ex Φ cs (.setL i k e) st = setLS st i (ev Φ cs k (snapE st)) (retain (ev Φ cs e) st) := Eq.trans rfl rfl
@[simp] theorem ex_setD (i : Nat) (k e : E) : ex Φ cs (.setD i k e) st = setDS st i (ev Φ cs k (snapE st)) (ev Φ cs e (snapE st)) := Eq.trans rfl rfl
@[simp] theorem ex_setR (i : Nat) (k k2 e : E) : ex Φ cs (.setR i k k2 e) st = setRS st i (ev Φ cs k (snapE st)) (ev Φ cs k2 (snapE st)) (retain (ev Φ cs e) st) := Eq.trans rfl rfl
@[simp] theorem ex_fz (i : Nat) (m : DL.S) : ex Φ cs (.fz i m) st = ex Φ cs m (thaw st i) := Eq.trans rfl rfl
@[simp] theorem ex_setC (i : Nat) (k : E) (f : Nat) (k2 r : E) : ex Φ cs (.setC i k f k2 r) st = setCS st i (ev Φ cs k (snapE st)) (ev Φ cs k2 (snapE st)) (Φ f) (ev Φ cs r (frzE st)) := Eq.trans rfl rfl
@[simp] theorem ex_ite (t : E) (a b : S) : ex Φ cs (.ite t a b) st = iteS (ev Φ cs t (snapE st)) (ex Φ cs a st) (ex Φ cs b st) := Eq.trans rfl rfl
@[simp] theorem ex_for (tg : List Nat) (pair : Bool) (it : E) (body : S) : ex Φ cs (.for_ tg pair it body) st = onL (itemsS Φ cs it st) fun ds => loop Φ cs tg pair body ds st := Eq.trans rfl rfl
@[simp] theorem itemsS_def (it : E) : itemsS Φ cs it st = if isRng it then itemsO (ev Φ cs it (snapE st)) else itemsO (ev Φ cs it (frzE st)) := Eq.trans rfl rfl
@[simp] theorem isRng_1 (a : E) : isRng (.rng1 a) = true := Eq.trans rfl rfl
@[simp] theorem isRng_2 (a b : E) : isRng (.rng2 a b) = true := Eq.trans rfl rfl
@[simp] theorem isRng_var (i : Nat) : isRng (.var i) = false := Eq.trans rfl rfl
@[simp] theorem isRng_enm (a : E) : isRng (.enm a) = false := Eq.trans rfl rfl
@[simp] theorem isRng_zp (a b : E) : isRng (.zp a b) = false := Eq.trans rfl rfl
@[simp] theorem isRng_slA (a b : E) : isRng (.slA a b) = false := Eq.trans rfl rfl
@[simp] theorem isRng_call (a : Nat) (b : E) : isRng (.call a b) = false := Eq.trans rfl rfl
@[simp] theorem isRng_tup (a : E) : isRng (.tup a) = false := Eq.trans rfl rfl
@[simp] theorem isRng_lst (a : E) : isRng (.lst a) = false := Eq.trans rfl rfl
@[simp] theorem isRng_ix (a b : E) : isRng (.ix a b) = false := Eq.trans rfl rfl
@[simp] theorem ex_ret (e : E) : ex Φ cs (.ret e) st = rtS (ev Φ cs e (snapE st)) := Eq.trans rfl rfl
@[simp] theorem ex_retN : ex Φ cs .retN st = some (.rt .non) := Eq.trans rfl rfl
@[simp] theorem evK_val (e : E) : evK Φ cs .val e st = valS (retain (ev Φ cs e) st) := Eq.trans rfl rfl
@[simp] theorem evK_lst (e : E) : evK Φ cs .lst e st = lstS (ev Φ cs e (frzE st)) := Eq.trans rfl rfl
@[simp] theorem evK_dic (e : E) : evK Φ cs .dic e st = some (.dic []) := Eq.trans rfl rfl
@[simp] theorem thenS_nx (st : State) (g : State → Option Rs) : thenS (some (.nx st)) g = g st := Eq.trans rfl rfl
@[simp] theorem thenS_rt (d : D) (g : State → Option Rs) : thenS (some (.rt d)) g = some (.rt d) := Eq.trans rfl rfl
@[simp] theorem iteS_t (a b : Option Rs) : iteS (some (.bl true)) a b = a := Eq.trans rfl rfl
@[simp] theorem iteS_f (a b : Option Rs) : iteS (some (.bl false)) a b = b := Eq.trans rfl rfl
theorem iteS_b (c : Bool) (a b : Option Rs) : iteS (some (.bl c)) a b = if c = true then a else b := by cases c <;> rfl
@[simp] theorem rtS_s (d : D) : rtS (some d) = some (.rt d) := Eq.trans rfl rfl
@[simp] theorem valS_s (d : D) : valS (some d) = some (.val d) := Eq.trans rfl rfl
@[simp] theorem lstS_s (ds : List D) : lstS (some (.lst ds)) = some (.lst ds) := Eq.trans rfl rfl
@[simp] theorem setS_s (i : Nat) (s : Slot) : setS st i (some s) = if i < st.length then some (.nx (st.set i s)) else none := Eq.trans rfl rfl
@[simp] theorem setS2_s (i j : Nat) (s t : Slot) : setS2 st i j (some s) (some t) = if i < st.length ∧ j < st.length then some (.nx ((st.set i s).set j t)) else none := Eq.trans rfl rfl
@[simp] theorem endR_rt (d : D) : endR (some (.rt d)) = some d := Eq.trans rfl rfl
@[simp] theorem endR_nx (st : State) : endR (some (.nx st)) = some .non := Eq.trans rfl rfl
@[simp] theorem onL_s (ds : List D) (g : List D → Option Rs) : onL (some ds) g = g ds := Eq.trans rfl rfl
@[simp] theorem onS_s (g : State → Option Rs) : onS (some st) g = g st := Eq.trans rfl rfl
@[simp] theorem snapE_nil : snapE [] = [] := Eq.trans rfl rfl
@[simp] theorem snapE_cons (s : Slot) (st : State) : snapE (s :: st) = s.snap :: snapE st := Eq.trans rfl rfl
@[simp] theorem frzE_nil : frzE [] = [] := Eq.trans rfl rfl
@[simp] theorem frzE_cons (s : Slot) (st : State) : frzE (s :: st) = s.frz :: frzE st := Eq.trans rfl rfl
@[simp] theorem snap_val (d : D) : (Slot.val d).snap = some d := Eq.trans rfl rfl
@[simp] theorem snap_und : Slot.und.snap = none := Eq.trans rfl rfl
@[simp] theorem snap_lst (ds : List D) : (Slot.lst ds).snap = some (.lst ds) := Eq.trans rfl rfl
@[simp] theorem snap_dic (m : List ((Int × Int) × Int)) : (Slot.dic m).snap = some (.dic m) := Eq.trans rfl rfl
@[simp] theorem snap_rows (m : List (List D)) : (Slot.rows m).snap = some (.lst (m.map D.lst)) := Eq.trans rfl rfl
@[simp] theorem frz_val (d : D) : (Slot.val d).frz = some d := Eq.trans rfl rfl
@[simp] theorem frz_und : Slot.und.frz = none := Eq.trans rfl rfl
@[simp] theorem frz_lst (ds : List D) : (Slot.lst ds).frz = none := Eq.trans rfl rfl
@[simp] theorem frz_dic (m : List ((Int × Int) × Int)) : (Slot.dic m).frz = none := Eq.trans rfl rfl
@[simp] theorem frz_rows (m : List (List D)) : (Slot.rows m).frz = none := Eq.trans rfl rfl
/-- what may be kept -/
theorem retain_of {f : Env → Option D} {d : D} (h1 : f (snapE st) = some d) (h2 : scalD d = true ∨ f (frzE st) = some d) : retain f st = some d := by
  unfold retain
  rw [h1]
  dsimp only
  cases h : scalD d with
  | true => rw [if_pos rfl]
  | false =>
    rw [if_neg (by decide)]
    rcases h2 with h2 | h2
    · rw [h] at h2
      cases h2
    · rw [h2]
def orK (a b : Option D) : Option D := match a with
  | some d => some d
  | none => (match b with
    | some d => if keepD d then some d else none
    | none => none)
@[simp] theorem retain_def (f : Env → Option D) : retain f st = if (f (snapE st)).any scalD = true then f (snapE st) else if (f (snapE st)).isSome = true then orK (f (frzE st)) (f (snapE st)) else none := by
  unfold retain
  cases f (snapE st) with
  | none => rfl
  | some d =>
    cases h : scalD d with
    | true => simp [h]
    | false =>
      simp only [h, Option.any_some, Option.isSome_some, Bool.false_eq_true, if_false, if_true]
      cases f (frzE st) <;> rfl
@[simp] theorem orK_s (d : D) (b : Option D) : orK (some d) b = some d := Eq.trans rfl rfl
@[simp] theorem orK_n (d : D) : orK none (some d) = if keepD d = true then some d else none := Eq.trans rfl rfl
@[simp] theorem scalD_int (i : Int) : scalD (.int i) = true := Eq.trans rfl rfl
@[simp] theorem scalD_bl (b : Bool) : scalD (.bl b) = true := Eq.trans rfl rfl
@[simp] theorem scalD_non : scalD .non = true := Eq.trans rfl rfl
@[simp] theorem scalD_tup (xs : List D) : scalD (.tup xs) = false := Eq.trans rfl rfl
@[simp] theorem scalD_lst (xs : List D) : scalD (.lst xs) = false := Eq.trans rfl rfl
@[simp] theorem scalD_dic (m : List ((Int × Int) × Int)) : scalD (.dic m) = false := Eq.trans rfl rfl
end
end DL
/-! DL15: loops, equality, ranges of the evaluator. -/
namespace DL
open PySem L2
/-! ### equality -/
def okN : Nat → D → Bool
  | _, .non => true
  | _, .bl _ => true
  | _, .int _ => true
  | n + 1, .lst xs => xs.all (okN n)
  | n + 1, .tup xs => xs.all (okN n)
  | _, _ => false
theorem okN_lay : ∀ (n : Nat) (d : D), okN n d = true → d.py.canLay0 = true ∧ d.py.depth ≤ n + 1 := by
  have gen : ∀ (n : Nat), (∀ d : D, okN n d = true → d.py.canLay0 = true ∧ d.py.depth ≤ n + 1) → ∀ xs : List D, xs.all (okN n) = true → PyData.canLayAll0 (D.pys xs) = true ∧ PyData.depthAll (D.pys xs) ≤ n + 1 := by
    intro n ih xs
    induction xs with
    | nil => exact fun _ => ⟨rfl, Nat.zero_le _⟩
    | cons x xs ihx =>
      intro h
      rw [List.all_cons, Bool.and_eq_true] at h
      obtain ⟨a, b⟩ := ih x h.1
      obtain ⟨a2, b2⟩ := ihx h.2
      refine ⟨?_, ?_⟩
      · rw [D.pys, PyData.canLayAll0, a, a2]
        rfl
      · rw [D.pys, PyData.depthAll]
        omega
  intro n
  induction n with
  | zero =>
    intro d h
    cases d <;> first | (cases h; done) | exact ⟨rfl, Nat.zero_le _⟩
  | succ n ih =>
    intro d h
    cases d with
    | lst xs =>
      obtain ⟨a, b⟩ := gen n ih xs h
      exact ⟨by rw [D.py, PyData.canLay0]; exact a, by rw [D.py, PyData.depth]; omega⟩
    | tup xs =>
      obtain ⟨a, b⟩ := gen n ih xs h
      exact ⟨by rw [D.py, PyData.canLay0]; exact a, by rw [D.py, PyData.depth]; omega⟩
    | dic _ => cases h
    | scr _ => cases h
    | ktup _ => cases h
    | str _ => cases h
    | _ => exact ⟨rfl, Nat.zero_le _⟩
theorem okD_of {d : D} {n : Nat} (h : okN n d = true) (hn : n ≤ 60) : okD d = true := by
  obtain ⟨a, b⟩ := okN_lay n d h
  show (d.py.canLay0 && decide (d.py.depth ≤ 64)) = true
  rw [a, decide_eq_true (by omega)]
  rfl
/-- no bool within -/
def nbN : Nat → D → Bool
  | _, .non => true
  | _, .int _ => true
  | n + 1, .lst xs => xs.all (nbN n)
  | n + 1, .tup xs => xs.all (nbN n)
  | _, _ => false
theorem nb_ok : ∀ (n : Nat) (d : D), nbN n d = true → okN n d = true := by
  intro n
  induction n with
  | zero =>
    intro d h
    cases d <;> first | (cases h; done) | rfl
  | succ n ih =>
    intro d h
    cases d with
    | lst xs => exact List.all_eq_true.mpr fun x hx => ih x (List.all_eq_true.mp h x hx)
    | tup xs => exact List.all_eq_true.mpr fun x hx => ih x (List.all_eq_true.mp h x hx)
    | _ => first | (cases h; done) | rfl
theorem nb_eqv : ∀ (n : Nat) (x y : D), nbN n x = true → nbN n y = true → (PyData.eqv x.py y.py = true ↔ x = y) := by
  have gen : ∀ (n : Nat), (∀ x y : D, nbN n x = true → nbN n y = true → (PyData.eqv x.py y.py = true ↔ x = y)) → ∀ xs ys : List D, xs.all (nbN n) = true → ys.all (nbN n) = true → (PyData.eqvAll (D.pys xs) (D.pys ys) = true ↔ xs = ys) := by
    intro n ih xs
    induction xs with
    | nil =>
      intro ys _ _
      cases ys with
      | nil => exact ⟨fun _ => rfl, fun _ => rfl⟩
      | cons y ys => exact ⟨fun h => (nomatch h), fun h => (nomatch h)⟩
    | cons x xs ihx =>
      intro ys hx hy
      cases ys with
      | nil => exact ⟨fun h => (nomatch h), fun h => (nomatch h)⟩
      | cons y ys =>
        rw [List.all_cons, Bool.and_eq_true] at hx hy
        show (PyData.eqv x.py y.py && PyData.eqvAll (D.pys xs) (D.pys ys)) = true ↔ _
        rw [Bool.and_eq_true, ih x y hx.1 hy.1, ihx ys hx.2 hy.2, List.cons.injEq]
  intro n
  induction n with
  | zero =>
    intro x y hx hy
    cases x <;> first | (cases hx; done) | skip
    all_goals cases y <;> first | (cases hy; done) | skip
    all_goals simp [D.py, PyData.eqv]
  | succ n ih =>
    intro x y hx hy
    cases x with
    | lst xs =>
      cases y with
      | lst ys =>
        have := gen n ih xs ys hx hy
        show PyData.eqvAll (D.pys xs) (D.pys ys) = true ↔ _
        rw [this, D.lst.injEq]
      | _ => first | (cases hy; done) | simp [D.py, PyData.eqv]
    | tup xs =>
      cases y with
      | tup ys =>
        have := gen n ih xs ys hx hy
        show PyData.eqvAll (D.pys xs) (D.pys ys) = true ↔ _
        rw [this, D.tup.injEq]
      | _ => first | (cases hy; done) | simp [D.py, PyData.eqv]
    | non => cases y <;> first | (cases hy; done) | simp [D.py, PyData.eqv]
    | int i => cases y <;> first | (cases hy; done) | simp [D.py, PyData.eqv]
    | _ => cases hx
theorem eqD_nb (n : Nat) {x y : D} (hn : n ≤ 60) (hx : nbN n x = true) (hy : nbN n y = true) : ∃ b, eqD x y = some (.bl b) ∧ (b = true ↔ x = y) := by
  refine ⟨PyData.eqv x.py y.py, ?_, nb_eqv n x y hx hy⟩
  unfold eqD
  rw [okD_of (nb_ok n x hx) hn, okD_of (nb_ok n y hy) hn]
  rfl
theorem neD_nb (n : Nat) {x y : D} (hn : n ≤ 60) (hx : nbN n x = true) (hy : nbN n y = true) : ∃ b, neD x y = some (.bl b) ∧ (b = true ↔ x ≠ y) := by
  refine ⟨!PyData.eqv x.py y.py, ?_, ?_⟩
  · unfold neD
    rw [okD_of (nb_ok n x hx) hn, okD_of (nb_ok n y hy) hn]
    rfl
  · have := nb_eqv n x y hx hy
    cases h : PyData.eqv x.py y.py with
    | true => simp [this.mp h]
    | false =>
      refine ⟨fun _ e => ?_, fun _ => rfl⟩
      rw [this.mpr e] at h
      cases h
@[simp] theorem eqD_i (i j : Int) : eqD (.int i) (.int j) = some (.bl (decide (i = j))) := by
  unfold eqD
  rw [okD_of (n := 0) rfl (by decide), okD_of (n := 0) rfl (by decide)]
  show some (D.bl (i == j)) = _
  rw [show (i == j) = decide (i = j) by cases h : decide (i = j) <;> simp_all]
@[simp] theorem neD_i (i j : Int) : neD (.int i) (.int j) = some (.bl (!decide (i = j))) := by
  unfold neD
  rw [okD_of (n := 0) rfl (by decide), okD_of (n := 0) rfl (by decide)]
  show some (D.bl (!(i == j))) = _
  rw [show (i == j) = decide (i = j) by cases h : decide (i = j) <;> simp_all]
@[simp] theorem eqD_b (i j : Bool) : eqD (.bl i) (.bl j) = some (.bl (i == j)) := by
  unfold eqD
  rw [okD_of (n := 0) rfl (by decide), okD_of (n := 0) rfl (by decide)]
  rfl
@[simp] theorem neD_b (i j : Bool) : neD (.bl i) (.bl j) = some (.bl (!(i == j))) := by
  unfold neD
  rw [okD_of (n := 0) rfl (by decide), okD_of (n := 0) rfl (by decide)]
  rfl
/-- against the empty list -/
theorem eqD_nil {xs : List D} {n : Nat} (h : xs.all (okN n) = true) (hn : n ≤ 59) : eqD (.lst xs) (.lst []) = some (.bl xs.isEmpty) := by
  unfold eqD
  rw [okD_of (n := n + 1) (by exact h) (by omega), okD_of (n := 1) rfl (by decide)]
  cases xs <;> rfl
theorem neD_nil {xs : List D} {n : Nat} (h : xs.all (okN n) = true) (hn : n ≤ 59) : neD (.lst xs) (.lst []) = some (.bl (!xs.isEmpty)) := by
  unfold neD
  rw [okD_of (n := n + 1) (by exact h) (by omega), okD_of (n := 1) rfl (by decide)]
  cases xs <;> rfl
/-! ### ranges -/
theorem rng1_eq {n : Int} (h : r62 n = true) : rng1D (.int n) = some (.lst (rngD 0 n)) := by
  show (if r62 n then _ else none) = _
  rw [if_pos h]
theorem r62_of {n : Int} (h1 : -(2 ^ 62) ≤ n) (h2 : n < 2 ^ 62) : r62 n = true := by
  unfold r62
  rw [decide_eq_true h1, decide_eq_true h2]
  rfl
theorem r62_nat {n : Nat} (h : n ≤ 1000000) : r62 (n : Int) = true := r62_of (by omega) (by omega)
theorem rngD_len (lo hi : Int) : (rngD lo hi).length = (hi - lo).toNat := by
  unfold rngD
  rw [List.length_map, List.length_range]
theorem rngD_get {lo hi : Int} {i : Nat} (h : i < (rngD lo hi).length) : (rngD lo hi)[i] = .int (lo + (i : Nat)) := by
  have e : (rngD lo hi)[i]? = some (.int (lo + (i : Nat))) := by
    rw [rngD_len] at h
    unfold rngD
    rw [List.getElem?_map, List.getElem?_eq_getElem (by rw [List.length_range]; exact h), List.getElem_range]
    rfl
  rw [List.getElem?_eq_getElem h] at e
  exact Option.some.inj e
theorem rngD_mem {lo hi : Int} {d : D} (h : d ∈ rngD lo hi) : ∃ k : Int, d = .int k ∧ lo ≤ k ∧ k < hi := by
  unfold rngD at h
  obtain ⟨i, hi', e⟩ := List.mem_map.mp h
  rw [List.mem_range] at hi'
  exact ⟨lo + (i : Nat), e.symm, by omega, by omega⟩
theorem rngD_mem' {lo hi k : Int} (h1 : lo ≤ k) (h2 : k < hi) : D.int k ∈ rngD lo hi := by
  unfold rngD
  refine List.mem_map.mpr ⟨(k - lo).toNat, List.mem_range.mpr (by omega), ?_⟩
  rw [show lo + ((k - lo).toNat : Int) = k by omega]
/-- the range by naturals -/
theorem rngD_nat (a b : Nat) : rngD (a : Int) (b : Int) = (List.range (b - a)).map fun i => D.int ((a + i : Nat) : Int) := by
  unfold rngD
  rw [show ((b : Int) - (a : Int)).toNat = b - a by omega]
  rfl
theorem rngD_nat0 (b : Nat) : rngD 0 (b : Int) = (List.range b).map fun (i : Nat) => D.int (i : Int) := by
  have := rngD_nat 0 b
  simpa using this
/-! ### loops -/
/-- each turn goes on or returns -/
theorem forL_scan {F : D → State → Option Rs} (I : State → Prop) (P R : D → Prop) : ∀ {ds : List D} {st : State}, I st → (∀ d, d ∈ ds → ∀ st, I st → (∃ st', F d st = some (.nx st') ∧ I st' ∧ P d) ∨ ∃ r, F d st = some (.rt r) ∧ R r) →
    (∃ st', forL F ds st = some (.nx st') ∧ I st' ∧ ∀ d, d ∈ ds → P d) ∨ ∃ r, forL F ds st = some (.rt r) ∧ R r
  | [], st, h0, _ => .inl ⟨st, rfl, h0, fun d h => nomatch h⟩
  | d :: ds, st, h0, step => by
    rcases step d List.mem_cons_self st h0 with ⟨st', h1, h2, h3⟩ | ⟨r, h1, h2⟩
    · rcases forL_scan I P R h2 (fun d hd => step d (List.mem_cons_of_mem _ hd)) with ⟨st2, g1, g2, g3⟩ | ⟨r, g1, g2⟩
      · refine .inl ⟨st2, by simp only [forL, h1]; exact g1, g2, fun d' hd => ?_⟩
        rcases List.mem_cons.mp hd with z | z
        · exact z ▸ h3
        · exact g3 d' z
      · exact .inr ⟨r, by simp only [forL, h1]; exact g1, g2⟩
    · exact .inr ⟨r, by simp only [forL, h1], h2⟩
/-- no turn returns; the invariant by the number of turns -/
theorem forL_go {F : D → State → Option Rs} {ds : List D} (I : Nat → State → Prop) : ∀ {st : State}, I 0 st → (∀ i (h : i < ds.length) st, I i st → ∃ st', F ds[i] st = some (.nx st') ∧ I (i + 1) st') → ∃ st', forL F ds st = some (.nx st') ∧ I ds.length st' := by
  induction ds generalizing I with
  | nil => exact fun {st} h0 _ => ⟨st, rfl, h0⟩
  | cons d ds ih =>
    intro st h0 step
    obtain ⟨st', h1, h2⟩ := step 0 (Nat.succ_pos _) st h0
    obtain ⟨st2, g1, g2⟩ := ih (fun i => I (i + 1)) h2 fun i h st hi => step (i + 1) (Nat.succ_lt_succ h) st hi
    refine ⟨st2, ?_, g2⟩
    simp only [forL]
    rw [show F d st = some (.nx st') from h1]
    exact g1
/-- the same, a turn may return -/
theorem forL_goR {F : D → State → Option Rs} {ds : List D} (I : Nat → State → Prop) (R : D → Prop) : ∀ {st : State}, I 0 st → (∀ i (h : i < ds.length) st, I i st → (∃ st', F ds[i] st = some (.nx st') ∧ I (i + 1) st') ∨ ∃ r, F ds[i] st = some (.rt r) ∧ R r) → (∃ st', forL F ds st = some (.nx st') ∧ I ds.length st') ∨ ∃ r, forL F ds st = some (.rt r) ∧ R r := by
  induction ds generalizing I with
  | nil => exact fun {st} h0 _ => .inl ⟨st, rfl, h0⟩
  | cons d ds ih =>
    intro st h0 step
    rcases step 0 (Nat.succ_pos _) st h0 with ⟨st', h1, h2⟩ | ⟨r, h1, h2⟩
    · rcases ih (fun i => I (i + 1)) h2 fun i h st hi => step (i + 1) (Nat.succ_lt_succ h) st hi with ⟨st2, g1, g2⟩ | ⟨r, g1, g2⟩
      · refine .inl ⟨st2, ?_, g2⟩
        simp only [forL]
        rw [show F d st = some (.nx st') from h1]
        exact g1
      · refine .inr ⟨r, ?_, g2⟩
        simp only [forL]
        rw [show F d st = some (.nx st') from h1]
        exact g1
    · refine .inr ⟨r, ?_, h2⟩
      simp only [forL]
      rw [show F d st = some (.rt r) from h1]
/-! ### comprehensions -/
theorem compL_map {α : Type} {f : D → Option (Option D)} {g : α → D} {h : α → D} : ∀ {xs : List α}, (∀ x, x ∈ xs → f (g x) = some (some (h x))) → compL f (xs.map g) = some (xs.map h)
  | [], _ => rfl
  | x :: xs, hx => by
    simp only [List.map_cons, compL]
    rw [hx x List.mem_cons_self, compL_map fun y hy => hx y (List.mem_cons_of_mem _ hy)]
theorem compL_filter {α : Type} {f : D → Option (Option D)} {g : α → D} {h : α → D} {p : α → Bool} : ∀ {xs : List α}, (∀ x, x ∈ xs → f (g x) = some (if p x then some (h x) else none)) → compL f (xs.map g) = some ((xs.filter p).map h)
  | [], _ => rfl
  | x :: xs, hx => by
    simp only [List.map_cons, compL]
    rw [hx x List.mem_cons_self, compL_filter fun y hy => hx y (List.mem_cons_of_mem _ hy)]
    cases hp : p x with
    | true => simp [hp]
    | false => simp [hp]
@[simp] theorem testD_t (d : D) : testD (some (.bl true)) (some d) = some (some d) := Eq.trans rfl rfl
@[simp] theorem testD_f (e : Option D) : testD (some (.bl false)) e = some none := Eq.trans rfl rfl
theorem testD_b (b : Bool) (d : D) : testD (some (.bl b)) (some d) = some (if b then some d else none) := by cases b <;> rfl
@[simp] theorem onE_s (ρ : Env) (g : Env → Option (Option D)) : onE (some ρ) g = g ρ := Eq.trans rfl rfl
@[simp] theorem onI_s (ds : List D) (g : List D → Option (List D)) : onI (some ds) g = g ds := Eq.trans rfl rfl
@[simp] theorem capL_s (ds : List D) : capL (some ds) = some (.lst ds) := Eq.trans rfl rfl
@[simp] theorem itemsO_l (ds : List D) : itemsO (some (.lst ds)) = some ds := Eq.trans rfl rfl
@[simp] theorem itemsO_t (ds : List D) : itemsO (some (.tup ds)) = some ds := Eq.trans rfl rfl
theorem capI_s {ds : List D} (h : ds.length ≤ 4096) : capI (some ds) = some ds := by
  show (if ds.length ≤ 4096 then some ds else none) = _
  rw [if_pos h]
@[simp] theorem bindT_1 (ρ : Env) (j : Nat) (d : D) : bindT ρ [j] false d = some (ρ.set j (some d)) := by cases d <;> rfl
theorem bindS_1 (st : State) (j : Nat) (d : D) (h : j < st.length) : bindS st [j] false d = some (st.set j (.val d)) := by
  have e : bindS st [j] false d = if j < st.length then some (st.set j (.val d)) else none := by cases d <;> rfl
  rw [e, if_pos h]
@[simp] theorem rng1D_i (n : Int) : rng1D (.int n) = if r62 n then some (.lst (rngD 0 n)) else none := Eq.trans rfl rfl
@[simp] theorem rng2D_i (lo hi : Int) : rng2D (.int lo) (.int hi) = if r62 lo && r62 hi then some (.lst (rngD lo hi)) else none := Eq.trans rfl rfl
section
variable {Φ : Nat → List D → Option D} {cs : Nat → Int} {st : State} {body : S}
/-- a loop by its items, one name -/
theorem loop_go {j : Nat} {ds : List D} (I : Nat → State → Prop) (h0 : I 0 st) (hl : ∀ i st, I i st → j < st.length) (step : ∀ i (h : i < ds.length) st, I i st → ∃ st', ex Φ cs body (st.set j (.val ds[i])) = some (.nx st') ∧ I (i + 1) st') :
    ∃ st', loop Φ cs [j] false body ds st = some (.nx st') ∧ I ds.length st' := forL_go I h0 fun i h st hi => by
  rw [bindS_1 _ _ _ (hl i st hi)]
  exact step i h st hi
theorem loop_goR {j : Nat} {ds : List D} (I : Nat → State → Prop) (R : D → Prop) (h0 : I 0 st) (hl : ∀ i st, I i st → j < st.length) (step : ∀ i (h : i < ds.length) st, I i st → (∃ st', ex Φ cs body (st.set j (.val ds[i])) = some (.nx st') ∧ I (i + 1) st') ∨ ∃ r, ex Φ cs body (st.set j (.val ds[i])) = some (.rt r) ∧ R r) :
    (∃ st', loop Φ cs [j] false body ds st = some (.nx st') ∧ I ds.length st') ∨ ∃ r, loop Φ cs [j] false body ds st = some (.rt r) ∧ R r := forL_goR I R h0 fun i h st hi => by
  rw [bindS_1 _ _ _ (hl i st hi)]
  exact step i h st hi
/-- a range from a to b -/
theorem loop_rng {j a b : Nat} (hab : a ≤ b) (I : Nat → State → Prop) (h0 : I a st) (hl : ∀ i st, I i st → j < st.length) (step : ∀ k, a ≤ k → k < b → ∀ st, I k st → ∃ st', ex Φ cs body (st.set j (.val (.int (k : Nat)))) = some (.nx st') ∧ I (k + 1) st') :
    ∃ st', loop Φ cs [j] false body (rngD (a : Int) (b : Int)) st = some (.nx st') ∧ I b st' := by
  have hlen : (rngD (a : Int) (b : Int)).length = b - a := by rw [rngD_len]; omega
  have := loop_go (Φ := Φ) (cs := cs) (body := body) (j := j) (ds := rngD (a : Int) (b : Int)) (fun i st => I (a + i) st) h0 (fun i st h => hl _ st h) fun i h st hi => by
    rw [rngD_get h]
    rw [hlen] at h
    have := step (a + i) (by omega) (by omega) st hi
    rw [show (a : Int) + (i : Nat) = ((a + i : Nat) : Int) by omega]
    exact this
  rw [hlen, show a + (b - a) = b by omega] at this
  exact this
theorem loop_rngR {j a b : Nat} (hab : a ≤ b) (I : Nat → State → Prop) (R : D → Prop) (h0 : I a st) (hl : ∀ i st, I i st → j < st.length) (step : ∀ k, a ≤ k → k < b → ∀ st, I k st → (∃ st', ex Φ cs body (st.set j (.val (.int (k : Nat)))) = some (.nx st') ∧ I (k + 1) st') ∨ ∃ r, ex Φ cs body (st.set j (.val (.int (k : Nat)))) = some (.rt r) ∧ R r) :
    (∃ st', loop Φ cs [j] false body (rngD (a : Int) (b : Int)) st = some (.nx st') ∧ I b st') ∨ ∃ r, loop Φ cs [j] false body (rngD (a : Int) (b : Int)) st = some (.rt r) ∧ R r := by
  have hlen : (rngD (a : Int) (b : Int)).length = b - a := by rw [rngD_len]; omega
  have := loop_goR (Φ := Φ) (cs := cs) (body := body) (j := j) (ds := rngD (a : Int) (b : Int)) (fun i st => I (a + i) st) R h0 (fun i st h => hl _ st h) fun i h st hi => by
    rw [rngD_get h]
    rw [hlen] at h
    have := step (a + i) (by omega) (by omega) st hi
    rw [show (a : Int) + (i : Nat) = ((a + i : Nat) : Int) by omega]
    exact this
  rw [hlen, show a + (b - a) = b by omega] at this
  exact this
end
section
variable {Φ : Nat → List D → Option D} {cs : Nat → Int} {ρ : Env}
@[simp] theorem wipeE_nil : wipeE ρ [] = ρ := Eq.trans rfl rfl
@[simp] theorem wipeE_cons (v : Nat) (vs : List Nat) : wipeE ρ (v :: vs) = (wipeE ρ vs).set v none := Eq.trans rfl rfl
theorem comp_map {α : Type} {vs : List Nat} {j : Nat} {it e : E} {xs : List α} {g h : α → D} (hi : itemsO (ev Φ cs it ρ) = some (xs.map g)) (hl : xs.length ≤ 4096) (he : ∀ x, x ∈ xs → ev Φ cs e ((wipeE ρ vs).set j (some (g x))) = some (h x)) :
    ev Φ cs (.comp vs [j] false it (.bl true) e) ρ = some (.lst (xs.map h)) := by
  rw [ev_comp, hi, capI_s (by rw [List.length_map]; exact hl), onI_s, compL_map (g := g) (h := h) fun x hx => ?_, capL_s]
  rw [bindT_1, onE_s, he x hx]
  rfl
theorem comp_filter {α : Type} {vs : List Nat} {j : Nat} {it t e : E} {xs : List α} {g h : α → D} {p : α → Bool} (hi : itemsO (ev Φ cs it ρ) = some (xs.map g)) (hl : xs.length ≤ 4096) (ht : ∀ x, x ∈ xs → ev Φ cs t ((wipeE ρ vs).set j (some (g x))) = some (.bl (p x))) (he : ∀ x, x ∈ xs → p x = true → ev Φ cs e ((wipeE ρ vs).set j (some (g x))) = some (h x)) :
    ev Φ cs (.comp vs [j] false it t e) ρ = some (.lst ((xs.filter p).map h)) := by
  rw [ev_comp, hi, capI_s (by rw [List.length_map]; exact hl), onI_s, compL_filter (g := g) (h := h) (p := p) fun x hx => ?_, capL_s]
  rw [bindT_1, onE_s, ht x hx]
  cases hp : p x with
  | true =>
    rw [he x hx hp]
    rfl
  | false => rfl
end
theorem atI_nat_eq {α : Type} (xs : List α) (n : Nat) : L2.atI xs (n : Int) = xs[n]? := by
  unfold L2.atI L2.ixN
  rw [if_pos (by omega)]
  by_cases h : n < xs.length
  · rw [if_pos (by omega)]
    rfl
  · rw [if_neg (by omega), List.getElem?_eq_none (by omega)]
    rfl
/-- the i-th of a list of ints -/
def dg (ds : List Int) (i : Nat) : Int := ds.getD i 0
theorem dg_of {ds : List Int} {i : Nat} (h : i < ds.length) : dg ds i = ds[i] := by
  unfold dg
  rw [List.getD_eq_getElem?_getD, List.getElem?_eq_getElem h]
  rfl
theorem dg_mem {ds : List Int} {i : Nat} (h : i < ds.length) : dg ds i ∈ ds := by
  rw [dg_of h]
  exact List.getElem_mem h
theorem dig_at {ds : List Int} {i : Nat} (h : i < ds.length) : L2.atI (ds.map D.int) (i : Int) = some (.int (dg ds i)) := by
  unfold dg
  rw [atI_nat_eq, List.getElem?_map, List.getElem?_eq_getElem h, List.getD_eq_getElem?_getD, List.getElem?_eq_getElem h]
  rfl
theorem cutD_from {α : Type} (f : α → D) (xs : List α) (k : Nat) : cutD (xs.map f) (some (k : Int)) none = (xs.drop k).map f := by
  unfold cutD
  rw [HT.sIx_nat, HT.sIx_none, ← List.map_drop, ← List.map_take, List.length_map]
  congr 1
  by_cases h : k ≤ xs.length
  · rw [Nat.min_eq_left h, List.take_of_length_le]
    rw [List.length_drop]
    exact Nat.le_refl _
  · rw [Nat.min_eq_right (by omega), List.drop_of_length_le (Nat.le_refl _), List.drop_of_length_le (by omega)]
    simp
theorem cutD_fromTo {α : Type} (f : α → D) (xs : List α) (k l : Nat) : cutD (xs.map f) (some (k : Int)) (some (l : Int)) = ((xs.drop k).take (l - k)).map f := by
  unfold cutD
  rw [HT.sIx_nat, HT.sIx_nat, ← List.map_drop, ← List.map_take, List.length_map]
  congr 1
  by_cases h : k ≤ xs.length
  · by_cases h2 : l ≤ xs.length
    · rw [Nat.min_eq_left h, Nat.min_eq_left h2]
    · rw [Nat.min_eq_left h, Nat.min_eq_right (by omega), List.take_of_length_le (by rw [List.length_drop]; exact Nat.le_refl _), List.take_of_length_le (by rw [List.length_drop]; omega)]
  · have e1 : xs.drop (min k xs.length) = [] := List.drop_of_length_le (by omega)
    have e2 : xs.drop k = [] := List.drop_of_length_le (by omega)
    rw [e1, e2, List.take_nil, List.take_nil]
theorem getD_mem {α : Type} {l : List α} {i : Nat} {d : α} (h : i < l.length) : l.getD i d ∈ l := by
  rw [List.getD_eq_getElem?_getD, List.getElem?_eq_getElem h]
  exact List.getElem_mem h
end DL
/-! PL1: tables as data; the small defs. -/
namespace PW
open DL
def oD : Option Int → D
  | none => .non
  | some i => .int i
@[simp] theorem oD_n : oD none = .non := rfl
@[simp] theorem oD_s (i : Int) : oD (some i) = .int i := rfl
abbrev Tab := List (List (Option Int))
def rowD (r : List (Option Int)) : D := .tup (r.map oD)
def tabD (T : Tab) : D := .tup (T.map rowD)
def ent (T : Tab) (a b : Nat) : Option Int := if a < b then (T.getD a []).getD (b - a - 1) none else if b < a then (T.getD b []).getD (a - b - 1) none else none
/-- the shape of a table of T.length + 1 parcels -/
def Shp (T : Tab) : Prop := T.length ≤ 1000 ∧ ∀ i, i < T.length → (T.getD i []).length = T.length - i
@[simp] theorem scalD_tab (T : Tab) : scalD (tabD T) = false := rfl
theorem ent_symm (T : Tab) (a b : Nat) : ent T a b = ent T b a := by
  unfold ent
  rcases Nat.lt_trichotomy a b with h | h | h
  · rw [if_pos h, if_neg (by omega), if_pos h]
  · rw [h]
  · rw [if_neg (by omega), if_pos h, if_pos h]
theorem ent_self (T : Tab) (a : Nat) : ent T a a = none := by
  unfold ent
  rw [if_neg (by omega), if_neg (by omega)]
theorem atI_nat' {α : Type} {xs : List α} {i : Int} {j : Nat} {v : α} (hi : i = (j : Int)) (h : xs[j]? = some v) : L2.atI xs i = some v := hi ▸ L2.atI_nat h
theorem tab_at {T : Tab} (hT : Shp T) {a b : Nat} (h : a < b) (hb : b ≤ T.length) {i j : Int} (hi : i = (a : Int)) (hj : j = ((b - a - 1 : Nat) : Int)) : op2 ixD (op2 ixD (some (tabD T)) (some (.int i))) (some (.int j)) = some (oD (ent T a b)) := by
  have hr := hT.2 a (by omega)
  have h1 : T[a]? = some (T.getD a []) := by
    rw [List.getD_eq_getElem?_getD, List.getElem?_eq_getElem (by omega)]
    rfl
  have h2 : ixD (tabD T) (.int i) = some (rowD (T.getD a [])) := by
    show L2.atI (T.map rowD) i = _
    refine atI_nat' hi ?_
    rw [List.getElem?_map, h1]
    rfl
  have h3 : ixD (rowD (T.getD a [])) (.int j) = some (oD (ent T a b)) := by
    show L2.atI ((T.getD a []).map oD) j = _
    refine atI_nat' hj ?_
    rw [List.getElem?_map]
    unfold ent
    rw [if_pos h, List.getD_eq_getElem?_getD (l := T.getD a []), List.getElem?_eq_getElem (by omega)]
    rfl
  rw [op2_s, h2, op2_s, h3]
theorem entry_of_eq {T : Tab} (hT : Shp T) {a b : Nat} (h : a ≠ b) (ha : a ≤ T.length) (hb : b ≤ T.length) : G_entry_of [tabD T, .int a, .int b] = some (oD (ent T a b)) := by
  have key : ∀ (lo hi : Nat), lo < hi → hi ≤ T.length → op2 ixD (op2 ixD (some (tabD T)) (some (.int (lo : Int)))) (some (.int ((hi : Int) - lo - 1))) = some (oD (ent T lo hi)) := fun lo hi h h2 => tab_at hT h h2 rfl (by omega)
  unfold G_entry_of runF m_entry_of
  rcases Nat.lt_or_gt_of_ne h with h | h
  · have := key a b h hb
    simp only [op2_s] at this
    simp [startS, lim, Int.min_eq_left (show (a : Int) ≤ b by omega), Int.max_eq_right (show (a : Int) ≤ b by omega), this]
  · have := key b a h ha
    simp only [op2_s] at this
    simp [startS, lim, Int.min_eq_right (show (b : Int) ≤ a by omega), Int.max_eq_left (show (b : Int) ≤ a by omega), this, ent_symm T a b]
theorem law_entry_eq {T : Tab} (hT : Shp T) {a b : Nat} (ha : a ≤ T.length) (hb : b ≤ T.length) : G__law_entry [tabD T, .int a, .int b] = some (oD (ent T a b)) := by
  have key : ∀ (lo hi : Nat), lo < hi → hi ≤ T.length → op2 ixD (op2 ixD (some (tabD T)) (some (.int (lo : Int)))) (some (.int ((hi : Int) - lo - 1))) = some (oD (ent T lo hi)) := fun lo hi h h2 => tab_at hT h h2 rfl (by omega)
  unfold G__law_entry runF m__law_entry
  rcases Nat.lt_trichotomy a b with h | h | h
  · have := key a b h hb
    simp only [op2_s] at this
    simp [startS, this, show ¬ (a : Int) = b by omega, show (a : Int) < b by omega]
  · subst h
    simp [startS, ent_self]
  · have := key b a h ha
    simp only [op2_s] at this
    simp [startS, this, show ¬ (a : Int) = b by omega, show ¬ (a : Int) < b by omega, ent_symm T a b]
/-! ### the script's numbers -/
theorem mid_of {i : Int} (h1 : -(2 ^ 64) < i) (h2 : i < 2 ^ 64) : mid i = true := by
  unfold mid
  rw [decide_eq_true h1, decide_eq_true h2]
  rfl
theorem fmod_lt {x p : Int} (h : 0 < p) : 0 ≤ x.fmod p ∧ x.fmod p < p := ⟨Int.fmod_nonneg_of_pos _ h, Int.fmod_lt_of_pos _ h⟩
theorem mid_fmod {x p : Int} (h : 0 < p) (h2 : p < 2 ^ 64) : mid (x.fmod p) = true := by
  obtain ⟨a, b⟩ := fmod_lt (x := x) h
  exact mid_of (by omega) (by omega)
theorem small30_of {j : Int} (h : small30 j = true) : small30 j = true := h
theorem cell_eq (ns : List Int) (i : Nat) (hi : i ≤ 1000) : ∃ c, G__law_cell [.scr ns, .int i] = some (.int c) := by
  have mi : mid (i : Int) = true := mid_of (by omega) (by omega)
  have m1 : mid 7919 = true := by decide
  unfold G__law_cell runF m__law_cell
  by_cases h : i < ns.length
  · have h2 : L2.atI ns (i : Int) = some ns[i] := L2.atI_nat (List.getElem?_eq_getElem h)
    exact ⟨ns[i], by simp [startS, h, ixD, h2]⟩
  · by_cases h0 : ns.length = 0
    · have : ns = [] := List.eq_nil_of_length_eq_zero h0
      subst this
      exact ⟨7919 * (i : Int) + 101, by simp [startS, m1, show ¬ ((i : Int) < 0) by omega]⟩
    · have hz2 : ¬ ns = [] := fun z => h0 (by rw [z]; rfl)
      obtain ⟨a, b⟩ := fmod_lt (x := (i : Int)) (p := (ns.length : Int)) (by omega)
      have hlt : ((i : Int).fmod ns.length).toNat < ns.length := by omega
      have h2 : L2.atI ns ((i : Int).fmod ns.length) = some (ns[((i : Int).fmod ns.length).toNat]'hlt) := atI_nat' (j := ((i : Int).fmod ns.length).toNat) (by omega) (List.getElem?_eq_getElem hlt)
      exact ⟨(ns[((i : Int).fmod ns.length).toNat]'hlt).fmod 1000003 + 7919 * (i : Int), by simp [startS, h, hz2, h2, ixD, m1]⟩
def prm : List D := [.int 2147483647, .int 2147483629, .int 2147483587, .int 2147483579, .int 2147483563, .int 2147483549, .int 2147483543, .int 2147483497]
theorem prm_at {i : Int} (h0 : 0 ≤ i) (h : i < 8) : ∃ p, L2.atI prm i = some (.int p) ∧ 0 < p ∧ p < 2 ^ 31 := by
  have : i = 0 ∨ i = 1 ∨ i = 2 ∨ i = 3 ∨ i = 4 ∨ i = 5 ∨ i = 6 ∨ i = 7 := by omega
  rcases this with h | h | h | h | h | h | h | h <;> subst h
  · exact ⟨_, rfl, by decide, by decide⟩
  · exact ⟨_, rfl, by decide, by decide⟩
  · exact ⟨_, rfl, by decide, by decide⟩
  · exact ⟨_, rfl, by decide, by decide⟩
  · exact ⟨_, rfl, by decide, by decide⟩
  · exact ⟨_, rfl, by decide, by decide⟩
  · exact ⟨_, rfl, by decide, by decide⟩
  · exact ⟨_, rfl, by decide, by decide⟩
theorem digits_body {ns : List Int} {i n : Nat} {count base c r : Int} {ds : List Int} {m : Slot} (hn : n ≤ 4000) (hb : 0 < base) (hb2 : small30 base = true) (hl : ds.length ≤ 4000) :
    ∃ (d r' : Int) (m' : Slot), ex (phi [G__law_cell]) cs b__law_digits_0 [.val (.scr ns), .val (.int i), .val (.int count), .val (.int base), .val (.tup prm), .val (.int c), .val (.int r), .lst (ds.map D.int), .val (.int n), m] = some (.nx [.val (.scr ns), .val (.int i), .val (.int count), .val (.int base), .val (.tup prm), .val (.int c), .val (.int r'), .lst (ds.map D.int ++ [.int d]), .val (.int n), m']) ∧ 0 ≤ d ∧ d < base := by
  have mn : mid (n : Int) = true := mid_of (by omega) (by omega)
  have m0 : mid 2 = true := by decide
  have m1 : mid 7919 = true := by decide
  have m2 : mid 104729 = true := by decide
  have m3 : mid 3 = true := by decide
  have mn1 : mid ((n : Int) + 1) = true := mid_of (by omega) (by omega)
  obtain ⟨a1, b1⟩ := fmod_lt (x := (n : Int)) (p := 8) (by decide)
  obtain ⟨p1, e1, q1, r1⟩ := prm_at a1 b1
  obtain ⟨a2, b2⟩ := fmod_lt (x := 3 * (n : Int) + i) (p := 8) (by decide)
  obtain ⟨p2, e2, q2, r2⟩ := prm_at a2 b2
  obtain ⟨a3, b3⟩ := fmod_lt (x := (n : Int) + 5) (p := 8) (by decide)
  obtain ⟨p3, e3, q3, r3⟩ := prm_at a3 b3
  have z1 : ¬ p1 = 0 := by omega
  have z2 : ¬ p2 = 0 := by omega
  have z3 : ¬ p3 = 0 := by omega
  have zb : ¬ base = 0 := by omega
  have y1 : ∀ x : Int, mid (x.fmod p1) = true := fun x => mid_fmod q1 (by omega)
  have y2 : ∀ x : Int, mid (x.fmod p2) = true := fun x => mid_fmod q2 (by omega)
  have hll : ds.length ≤ lim := by unfold lim; omega
  unfold b__law_digits_0
  by_cases hr : 0 < r
  · exact ⟨r.fmod base, r.fdiv base, .val (.int r), by simp [m0, m1, m2, m3, mn, mn1, e1, e2, e3, z1, z2, z3, zb, y1, y2, hr, hb2, appS, hll], fmod_lt hb⟩
  · refine ⟨_, _, _, by simp [m0, m1, m2, m3, mn, mn1, e1, e2, e3, z1, z2, z3, zb, y1, y2, hr, hb2, appS, hll]; exact ⟨rfl, rfl, rfl⟩, fmod_lt hb⟩
theorem digits_ok (ns : List Int) (i count : Nat) (base : Int) (hi : i ≤ 1000) (hc : count ≤ 4000) (hb : 0 < base) (hb2 : small30 base = true) : ∃ ds : List Int, G__law_digits [.scr ns, .int i, .int count, .int base] = some (.lst (ds.map D.int)) ∧ ds.length = count ∧ ∀ d ∈ ds, 0 ≤ d ∧ d < base := by
  obtain ⟨c, hcell⟩ := cell_eq ns i hi
  have hp10 : powD (.int 10) (.int 18) = some (.int 1000000000000000000) := rfl
  have hL : ∀ rest : Int, ∃ st', loop (phi [G__law_cell]) cs [8] false b__law_digits_0 (rngD ((0 : Nat) : Int) (count : Int)) [.val (.scr ns), .val (.int i), .val (.int count), .val (.int base), .val (.tup prm), .val (.int c), .val (.int rest), .lst [], .und, .und] = some (.nx st') ∧
      ∃ (ds : List Int) (r : Int) (k m : Slot), st' = [.val (.scr ns), .val (.int i), .val (.int count), .val (.int base), .val (.tup prm), .val (.int c), .val (.int r), .lst (ds.map D.int), k, m] ∧ ds.length = count ∧ ∀ d ∈ ds, 0 ≤ d ∧ d < base := fun rest => by
    refine loop_rng (Nat.zero_le _) (fun n st => ∃ (ds : List Int) (r : Int) (k m : Slot), st = [.val (.scr ns), .val (.int i), .val (.int count), .val (.int base), .val (.tup prm), .val (.int c), .val (.int r), .lst (ds.map D.int), k, m] ∧ ds.length = n ∧ ∀ d ∈ ds, 0 ≤ d ∧ d < base) ⟨[], rest, .und, .und, rfl, rfl, fun d h => nomatch h⟩ (fun n st ⟨ds, r, k, m, e, _⟩ => by rw [e]; exact (by decide : 8 < 10)) fun n _ hn st ⟨ds, r, k, m, e, hl, hd⟩ => ?_
    subst e
    obtain ⟨d, r', m', h1, h2, h3⟩ := digits_body (ns := ns) (i := i) (n := n) (count := count) (c := c) (r := r) (ds := ds) (m := m) (by omega) hb hb2 (by omega)
    refine ⟨_, h1, ds ++ [d], r', _, m', by rw [List.map_append]; rfl, by rw [List.length_append, hl]; rfl, fun x hx => ?_⟩
    rcases List.mem_append.mp hx with z | z
    · exact hd x z
    · rw [List.mem_singleton.mp z]
      exact ⟨h2, h3⟩
  have fin : ∀ rest : Int, ∃ ds : List Int, thenS (loop (phi [G__law_cell]) cs [8] false b__law_digits_0 (rngD 0 (count : Int)) [.val (.scr ns), .val (.int i), .val (.int count), .val (.int base), .val (.tup prm), .val (.int c), .val (.int rest), .lst [], .und, .und]) (ex (phi [G__law_cell]) cs (.seq (.ret (.var 7)) .skip)) = some (.rt (.lst (ds.map D.int))) ∧ ds.length = count ∧ ∀ d ∈ ds, 0 ≤ d ∧ d < base := fun rest => by
    obtain ⟨st', h1, ds, r, k, m, e, h2, h3⟩ := hL rest
    refine ⟨ds, ?_, h2, h3⟩
    rw [show (((0 : Nat) : Int)) = 0 from rfl] at h1
    rw [h1, e]
    simp
  have hr : r62 (count : Int) = true := r62_nat (by omega)
  unfold G__law_digits runF m__law_digits
  by_cases hc18 : 1000000000000000000 ≤ c
  · obtain ⟨ds, h1, h2, h3⟩ := fin c
    refine ⟨ds, ?_, h2, h3⟩
    unfold prm at h1
    simp [startS, lim, hcell, hp10, hc18, hr, h1]
  · obtain ⟨ds, h1, h2, h3⟩ := fin 0
    refine ⟨ds, ?_, h2, h3⟩
    unfold prm at h1
    simp [startS, lim, hcell, hp10, hc18, hr, h1]
end PW
/-! PL2: weights and their table. -/
namespace PW
open DL
theorem weights_ok {ds : List Int} {many : Nat} (hm : 1 ≤ many) (hl : many + 8 ≤ ds.length) (hl2 : ds.length ≤ 1000) (hd : ∀ d ∈ ds, 0 ≤ d) : ∃ (u : Int) (ws : List Int), G__law_weights [.lst (ds.map D.int), .int many] = some (.tup [.int u, .tup (ws.map D.int)]) ∧ 1 ≤ u ∧ u ≤ 6 ∧ ws.length = many ∧ ∀ w ∈ ws, -60 ≤ w ∧ w ≤ 300 := by
  have d0 : L2.atI (ds.map D.int) 0 = some (.int (dg ds 0)) := dig_at (i := 0) (by omega)
  have d7 : L2.atI (ds.map D.int) 7 = some (.int (dg ds 7)) := dig_at (i := 7) (by omega)
  have hr : r62 (many : Int) = true := r62_nat (by omega)
  let w1 : List Int := (List.range many).map fun k => (dg ds (1 + k)).fmod 300 - 60
  have c1 : ∀ (ρ : Env), ρ[0]? = some (some (.lst (ds.map D.int))) → ρ[1]? = some (some (.int many)) → 5 ≤ ρ.length → ev (phi []) cs (.comp [4] [4] false (.rng1 (.var 1)) (.bl true) (.bin .sub (.bin .mod (.ix (.var 0) (.bin .add (.int 1) (.var 4))) (.int 300)) (.int 60))) ρ = some (.lst (w1.map D.int)) := by
    intro ρ h0 h1 hlen
    rw [List.map_map]
    refine comp_map (g := fun k : Nat => D.int (k : Int)) (xs := List.range many) (by simp [h1, hr, rngD_nat0]) (by rw [List.length_range]; omega) fun k hk => ?_
    rw [List.mem_range] at hk
    have dk : L2.atI (ds.map D.int) (1 + (k : Int)) = some (.int (dg ds (1 + k))) := by
      have := dig_at (ds := ds) (i := 1 + k) (by omega)
      rw [← this]
      congr 1
    simp [h0, List.getElem?_set, show 4 < ρ.length by omega, dk]
  have u1 := fmod_lt (x := dg ds 0) (p := 6) (by decide)
  have e1 : w1.length = many := by
    show ((List.range many).map _).length = many
    rw [List.length_map, List.length_range]
  have b1 : ∀ w ∈ w1, -60 ≤ w ∧ w ≤ 239 := fun w hw => by
    obtain ⟨k, _, e⟩ := List.mem_map.mp hw
    have := fmod_lt (x := dg ds (1 + k)) (p := 300) (by decide)
    omega
  unfold G__law_weights runF m__law_weights
  by_cases h3 : (dg ds 7).fmod 3 = 0
  · let w2 : List Int := ((ds.drop 1).take many).map fun d => dg w1 0 + d.fmod 9
    have c2 : ∀ (ρ : Env), ρ[0]? = some (some (.lst (ds.map D.int))) → ρ[1]? = some (some (.int many)) → ρ[3]? = some (some (.lst (w1.map D.int))) → 6 ≤ ρ.length → ev (phi []) cs (.comp [5] [5] false (.slAB (.var 0) (.int 1) (.bin .add (.int 1) (.var 1))) (.bl true) (.bin .add (.ix (.var 3) (.int 0)) (.bin .mod (.var 5) (.int 9)))) ρ = some (.lst (w2.map D.int)) := by
      intro ρ h0 h1 h3 hlen
      have hcut : cutD (ds.map D.int) (some 1) (some (1 + (many : Int))) = ((ds.drop 1).take many).map D.int := by
        have := cutD_fromTo D.int ds 1 (1 + many)
        rw [show 1 + many - 1 = many by omega] at this
        rw [← this]
        rfl
      rw [List.map_map]
      refine comp_map (g := D.int) (xs := (ds.drop 1).take many) (by simp [h0, h1, slABD, intO, sliceD, hcut]) (by rw [List.length_take]; omega) fun d hd' => ?_
      have dk : L2.atI (w1.map D.int) 0 = some (.int (dg w1 0)) := dig_at (i := 0) (by omega)
      simp [h3, List.getElem?_set, show 5 < ρ.length by omega, dk]
    refine ⟨1 + (dg ds 0).fmod 6, w2, ?_, by omega, by omega, ?_, fun w hw => ?_⟩
    · simp [startS, d0, d7, h3, c1, c2, toTD, lim]
    · show (((ds.drop 1).take many).map _).length = many
      rw [List.length_map, List.length_take, List.length_drop]
      omega
    · obtain ⟨d, _, e⟩ := List.mem_map.mp hw
      have := fmod_lt (x := d) (p := 9) (by decide)
      have := b1 (dg w1 0) (dg_mem (by omega))
      omega
  · refine ⟨1 + (dg ds 0).fmod 6, w1, ?_, by omega, by omega, e1, fun w hw => ?_⟩
    · simp [startS, d0, d7, h3, c1, toTD, lim]
    · have := b1 w hw
      omega
/-- the table of a scale -/
def tabOf (u : Int) (ws : List Int) : Tab := (List.range (ws.length - 1)).map fun a => (ws.drop (a + 1)).map fun m => some ((dg ws a + m).fdiv u)
theorem tabOf_len (u : Int) (ws : List Int) : (tabOf u ws).length = ws.length - 1 := by
  unfold tabOf
  rw [List.length_map, List.length_range]
theorem tabOf_row {u : Int} {ws : List Int} {a : Nat} (h : a < ws.length - 1) : (tabOf u ws).getD a [] = (ws.drop (a + 1)).map fun m => some ((dg ws a + m).fdiv u) := by
  unfold tabOf
  rw [List.getD_eq_getElem?_getD, List.getElem?_map, List.getElem?_range h]
  rfl
theorem tabOf_shp {u : Int} {ws : List Int} (h : ws.length ≤ 1000) : Shp (tabOf u ws) := by
  refine ⟨by rw [tabOf_len]; omega, fun i hi => ?_⟩
  rw [tabOf_len] at hi ⊢
  rw [tabOf_row hi, List.length_map, List.length_drop]
  omega
theorem tabOf_lt {u : Int} {ws : List Int} {a b : Nat} (h : a < b) (hb : b < ws.length) : ent (tabOf u ws) a b = some ((dg ws a + dg ws b).fdiv u) := by
  unfold ent
  rw [if_pos h, tabOf_row (by omega), List.getD_eq_getElem?_getD, List.getElem?_map, List.getElem?_drop, show a + 1 + (b - a - 1) = b by omega, List.getElem?_eq_getElem hb, dg_of hb]
  rfl
theorem tabOf_ent {u : Int} {ws : List Int} {a b : Nat} (h : a ≠ b) (ha : a < ws.length) (hb : b < ws.length) : ent (tabOf u ws) a b = some ((dg ws a + dg ws b).fdiv u) := by
  rcases Nat.lt_or_gt_of_ne h with h | h
  · exact tabOf_lt h hb
  · rw [ent_symm, tabOf_lt h ha, Int.add_comm]
def rowsTo (u : Int) (ws : List Int) (n : Nat) : List D := ((tabOf u ws).take n).map rowD
def nextRow (u : Int) (ws : List Int) (n : Nat) : List (Option Int) := (ws.drop (n + 1)).map fun m => some ((dg ws n + m).fdiv u)
theorem rowsTo_succ {u : Int} {ws : List Int} {n : Nat} (hn : n < ws.length - 1) : rowsTo u ws (n + 1) = rowsTo u ws n ++ [rowD (nextRow u ws n)] := by
  unfold rowsTo
  have : (tabOf u ws)[n]? = some (nextRow u ws n) := by
    unfold nextRow
    rw [← tabOf_row hn, List.getD_eq_getElem?_getD, List.getElem?_eq_getElem (by rw [tabOf_len]; exact hn)]
    rfl
  rw [List.take_add_one, this, List.map_append]
  rfl
theorem rowsTo_len (u : Int) (ws : List Int) (n : Nat) : (rowsTo u ws n).length ≤ ws.length := by
  unfold rowsTo
  rw [List.length_map, List.length_take, tabOf_len]
  omega
theorem table_eq {u : Int} {ws : List Int} (hu : small30 u = true) (h1 : 1 ≤ ws.length) (h2 : ws.length ≤ 1000) : G__law_table [.int u, .tup (ws.map D.int)] = some (tabD (tabOf u ws)) := by
  have hr : r62 ((ws.length : Int) - 1) = true := r62_of (by omega) (by omega)
  have hL := loop_rng (Φ := phi []) (cs := cs) (body := b__law_table_0) (j := 3) (a := 0) (b := ws.length - 1) (st := [.val (.int u), .val (.tup (ws.map D.int)), .lst [], .und, .und]) (Nat.zero_le _)
    (fun n st => ∃ k m, st = [.val (.int u), .val (.tup (ws.map D.int)), .lst (rowsTo u ws n), k, m]) ⟨.und, .und, rfl⟩ (fun n st ⟨k, m, e⟩ => by rw [e]; exact (by decide : 3 < 5)) fun n _ hn st ⟨k, m, e⟩ => by
      subst e
      have c1 : ∀ (ρ : Env), ρ[0]? = some (some (.int u)) → ρ[1]? = some (some (.tup (ws.map D.int))) → ρ[3]? = some (some (.int n)) → 5 ≤ ρ.length → ev (phi []) cs (.comp [4] [4] false (.slA (.var 1) (.bin .add (.var 3) (.int 1))) (.bl true) (.bin .fdiv (.bin .add (.ix (.var 1) (.var 3)) (.var 4)) (.var 0))) ρ = some (.lst ((nextRow u ws n).map oD)) := by
        intro ρ h0 h1 h3 hlen
        unfold nextRow
        rw [List.map_map]
        refine comp_map (g := D.int) (xs := ws.drop (n + 1)) ?_ (by rw [List.length_drop]; omega) fun d hd' => ?_
        · have := cutD_from D.int ws (n + 1)
          rw [show (((n + 1 : Nat)) : Int) = (n : Int) + 1 by omega] at this
          simp [h1, h3, slAD, intO, sliceD, this]
        · have dk : L2.atI (ws.map D.int) (n : Int) = some (.int (dg ws n)) := dig_at (by omega)
          simp [h0, h1, h3, List.getElem?_set, show 4 < ρ.length by omega, dk, hu]
      refine ⟨_, ?_, .val (.int n), m, rfl⟩
      have hlim : (rowsTo u ws n).length ≤ lim := by
        have := rowsTo_len u ws n
        unfold lim
        omega
      rw [rowsTo_succ hn]
      unfold b__law_table_0
      simp [c1, toTD, appS, hlim, rowD]
  obtain ⟨st', h3, k, m, e⟩ := hL
  rw [show ((0 : Nat) : Int) = 0 from rfl, show ((ws.length - 1 : Nat) : Int) = (ws.length : Int) - 1 by omega] at h3
  unfold G__law_table runF m__law_table
  have e2 : rowsTo u ws (ws.length - 1) = (tabOf u ws).map rowD := by
    unfold rowsTo
    rw [← tabOf_len u ws, List.take_length]
  rw [e2] at e
  simp [startS, lim, hr, h3, e, toTD, tabD]
end PW
/-! PL3: the three sums, clash, is_real, and the law's own fours. -/
namespace PW
open DL
/-- every number is known -/
def Whl (T : Tab) : Prop := ∀ a b, a ≠ b → a ≤ T.length → b ≤ T.length → ∃ i, ent T a b = some i
def va (T : Tab) (a b : Nat) : Int := (ent T a b).getD 0
theorem Whl.at {T : Tab} (h : Whl T) {a b : Nat} (n : a ≠ b) (ha : a ≤ T.length) (hb : b ≤ T.length) : ent T a b = some (va T a b) := by
  obtain ⟨i, e⟩ := h a b n ha hb
  unfold va
  rw [e]
  rfl
def s1 (T : Tab) (a b c d : Nat) : Int := va T a b + va T c d
def s2 (T : Tab) (a b c d : Nat) : Int := va T a c + va T b d
def s3 (T : Tab) (a b c d : Nat) : Int := va T a d + va T b c
theorem three_sums_eq {T : Tab} (hT : Shp T) (hw : Whl T) {a b c d : Nat} (ha : a ≤ T.length) (hb : b ≤ T.length) (hc : c ≤ T.length) (hd : d ≤ T.length) (ab : a ≠ b) (ac : a ≠ c) (ad : a ≠ d) (bc : b ≠ c) (bd : b ≠ d) (cd : c ≠ d) :
    G_three_sums [tabD T, .int a, .int b, .int c, .int d] = some (.tup [.int (s1 T a b c d), .int (s2 T a b c d), .int (s3 T a b c d)]) := by
  unfold G_three_sums runF m_three_sums s1 s2 s3
  simp [startS, lim, entry_of_eq hT ab ha hb, entry_of_eq hT cd hc hd, entry_of_eq hT ac ha hc, entry_of_eq hT bd hb hd, entry_of_eq hT ad ha hd, entry_of_eq hT bc hb hc, hw.at ab ha hb, hw.at cd hc hd, hw.at ac ha hc, hw.at bd hb hd, hw.at ad ha hd, hw.at bc hb hc]
def spr (T : Tab) (a b c d : Nat) : Int := max (s1 T a b c d) (max (s2 T a b c d) (s3 T a b c d)) - min (s1 T a b c d) (min (s2 T a b c d) (s3 T a b c d))
@[simp] theorem maxD_t3 (i j k : Int) : maxD [.tup [.int i, .int j, .int k]] = some (.int (max i (max j k))) := by
  show some (D.int (max (max i j) k)) = _
  rw [show max (max i j) k = max i (max j k) by omega]
@[simp] theorem minD_t3 (i j k : Int) : minD [.tup [.int i, .int j, .int k]] = some (.int (min i (min j k))) := by
  show some (D.int (min (min i j) k)) = _
  rw [show min (min i j) k = min i (min j k) by omega]
def q4 (q : Nat × Nat × Nat × Nat) : D := .tup [.int q.1, .int q.2.1, .int q.2.2.1, .int q.2.2.2]
/-- a bad four below n -/
def Bad (T : Tab) (q : Nat × Nat × Nat × Nat) : Prop := q.1 < q.2.1 ∧ q.2.1 < q.2.2.1 ∧ q.2.2.1 < q.2.2.2 ∧ q.2.2.2 ≤ T.length ∧ 1 < spr T q.1 q.2.1 q.2.2.1 q.2.2.2
theorem clash_body {T : Tab} (hT : Shp T) (hw : Whl T) {a b c d : Nat} {m : Slot} {n : Int} (ab : a < b) (bc : b < c) (cd : c < d) (hd : d ≤ T.length) :
    (spr T a b c d ≤ 1 ∧ ∃ m', ex (phi [G_three_sums]) cs b_clash_0 [.val (tabD T), .val (.int n), .val (.int a), .val (.int b), .val (.int c), .val (.int d), m] = some (.nx [.val (tabD T), .val (.int n), .val (.int a), .val (.int b), .val (.int c), .val (.int d), m'])) ∨
    (1 < spr T a b c d ∧ ex (phi [G_three_sums]) cs b_clash_0 [.val (tabD T), .val (.int n), .val (.int a), .val (.int b), .val (.int c), .val (.int d), m] = some (.rt (q4 (a, b, c, d)))) := by
  have e := three_sums_eq hT hw (a := a) (b := b) (c := c) (d := d) (by omega) (by omega) (by omega) hd (by omega) (by omega) (by omega) (by omega) (by omega) (by omega)
  by_cases h : 1 < spr T a b c d
  · right
    refine ⟨h, ?_⟩
    unfold spr at h
    unfold b_clash_0 q4
    simp [e, lim, h]
  · left
    refine ⟨by omega, .val (.tup [.int (s1 T a b c d), .int (s2 T a b c d), .int (s3 T a b c d)]), ?_⟩
    unfold spr at h
    unfold b_clash_0
    simp [e, lim, h]
/-- the loops of clash, from the inner one -/
def Rq (T : Tab) (r : D) : Prop := ∃ q, Bad T q ∧ r = q4 q
theorem clash_ok {T : Tab} (hT : Shp T) (hw : Whl T) : (G_clash [tabD T] = some .non ∧ ∀ q, ¬ Bad T q) ∨ ∃ q, Bad T q ∧ G_clash [tabD T] = some (q4 q) := by
  have hl := hT.1
  let n : Nat := T.length + 1
  have L0 : ∀ (a b c : Nat) (st : State), a < b → b < c → c < n → (∃ x y, st = [.val (tabD T), .val (.int n), .val (.int a), .val (.int b), .val (.int c), x, y]) →
      (∃ st', ex (phi [G_three_sums]) cs b_clash_1 st = some (.nx st') ∧ (∃ x y, st' = [.val (tabD T), .val (.int n), .val (.int a), .val (.int b), .val (.int c), x, y]) ∧ ∀ d, ¬ Bad T (a, b, c, d)) ∨ ∃ r, ex (phi [G_three_sums]) cs b_clash_1 st = some (.rt r) ∧ Rq T r := by
    rintro a b c st ab bc cn ⟨x, y, rfl⟩
    have hl := loop_rngR (Φ := phi [G_three_sums]) (cs := cs) (body := b_clash_0) (j := 5) (a := c + 1) (b := n) (st := [.val (tabD T), .val (.int n), .val (.int a), .val (.int b), .val (.int c), x, y]) (by omega)
      (fun k st => (∃ x y, st = [.val (tabD T), .val (.int n), .val (.int a), .val (.int b), .val (.int c), x, y]) ∧ ∀ d, d < k → ¬ Bad T (a, b, c, d)) (Rq T) ⟨⟨x, y, rfl⟩, fun d hd h => by have := h.2.2.1; simp at this; omega⟩ (fun k st ⟨⟨x, y, e⟩, _⟩ => by rw [e]; exact (by decide : 5 < 7)) (by
        rintro k hk hkn st ⟨⟨x, y, rfl⟩, hb⟩
        rcases clash_body (m := y) (n := n) hT hw ab bc (show c < k by omega) (by omega) with ⟨h1, m', h2⟩ | ⟨h1, h2⟩
        · refine .inl ⟨_, h2, ⟨_, m', rfl⟩, fun d hd => ?_⟩
          by_cases hdk : d = k
          · subst hdk
            intro h
            have := h.2.2.2.2
            simp at this
            omega
          · exact hb d (by omega)
        · exact .inr ⟨_, h2, (a, b, c, k), ⟨ab, bc, by show c < k; omega, by show k ≤ T.length; omega, h1⟩, rfl⟩)
    have r1 : r62 ((c : Int) + 1) = true := r62_of (by omega) (by omega)
    have r2 : r62 (n : Int) = true := r62_of (by omega) (by omega)
    rw [show ((c + 1 : Nat) : Int) = (c : Int) + 1 by omega] at hl
    rcases hl with ⟨st', h1, ⟨x', y', rfl⟩, h2⟩ | ⟨r, h1, h2⟩
    · refine .inl ⟨_, ?_, ⟨x', y', rfl⟩, fun d h => h2 d (by have := h.2.2.2.1; simp at this; omega) h⟩
      unfold b_clash_1
      simp [r1, r2, h1]
    · refine .inr ⟨r, ?_, h2⟩
      unfold b_clash_1
      simp [r1, r2, h1]
  have L1 : ∀ (a b : Nat) (st : State), a < b → b < n → (∃ w x y, st = [.val (tabD T), .val (.int n), .val (.int a), .val (.int b), w, x, y]) →
      (∃ st', ex (phi [G_three_sums]) cs b_clash_2 st = some (.nx st') ∧ (∃ w x y, st' = [.val (tabD T), .val (.int n), .val (.int a), .val (.int b), w, x, y]) ∧ ∀ c d, ¬ Bad T (a, b, c, d)) ∨ ∃ r, ex (phi [G_three_sums]) cs b_clash_2 st = some (.rt r) ∧ Rq T r := by
    rintro a b st ab bn ⟨w, x, y, rfl⟩
    have hl := loop_rngR (Φ := phi [G_three_sums]) (cs := cs) (body := b_clash_1) (j := 4) (a := b + 1) (b := n) (st := [.val (tabD T), .val (.int n), .val (.int a), .val (.int b), w, x, y]) (by omega)
      (fun k st => (∃ w x y, st = [.val (tabD T), .val (.int n), .val (.int a), .val (.int b), w, x, y]) ∧ ∀ c d, c < k → ¬ Bad T (a, b, c, d)) (Rq T) ⟨⟨w, x, y, rfl⟩, fun c d hc h => by have := h.2.1; simp at this; omega⟩ (fun k st ⟨⟨w, x, y, e⟩, _⟩ => by rw [e]; exact (by decide : 4 < 7)) (by
        rintro k hk hkn st ⟨⟨w, x, y, rfl⟩, hb⟩
        rcases L0 a b k _ ab (by omega) hkn ⟨x, y, rfl⟩ with ⟨st', h1, ⟨x', y', rfl⟩, h2⟩ | ⟨r, h1, h2⟩
        · refine .inl ⟨_, h1, ⟨_, x', y', rfl⟩, fun c d hc => ?_⟩
          by_cases hck : c = k
          · subst hck
            exact h2 d
          · exact hb c d (by omega)
        · exact .inr ⟨r, h1, h2⟩)
    have r1 : r62 ((b : Int) + 1) = true := r62_of (by omega) (by omega)
    have r2 : r62 (n : Int) = true := r62_of (by omega) (by omega)
    rw [show ((b + 1 : Nat) : Int) = (b : Int) + 1 by omega] at hl
    rcases hl with ⟨st', h1, ⟨w', x', y', rfl⟩, h2⟩ | ⟨r, h1, h2⟩
    · refine .inl ⟨_, ?_, ⟨w', x', y', rfl⟩, fun c d h => h2 c d (by have := h.2.2.2.1; have := h.2.2.1; simp at *; omega) h⟩
      unfold b_clash_2
      simp [r1, r2, h1]
    · refine .inr ⟨r, ?_, h2⟩
      unfold b_clash_2
      simp [r1, r2, h1]
  have L2 : ∀ (a : Nat) (st : State), a < n → (∃ v w x y, st = [.val (tabD T), .val (.int n), .val (.int a), v, w, x, y]) →
      (∃ st', ex (phi [G_three_sums]) cs b_clash_3 st = some (.nx st') ∧ (∃ v w x y, st' = [.val (tabD T), .val (.int n), .val (.int a), v, w, x, y]) ∧ ∀ b c d, ¬ Bad T (a, b, c, d)) ∨ ∃ r, ex (phi [G_three_sums]) cs b_clash_3 st = some (.rt r) ∧ Rq T r := by
    rintro a st an ⟨v, w, x, y, rfl⟩
    have hl := loop_rngR (Φ := phi [G_three_sums]) (cs := cs) (body := b_clash_2) (j := 3) (a := a + 1) (b := n) (st := [.val (tabD T), .val (.int n), .val (.int a), v, w, x, y]) (by omega)
      (fun k st => (∃ v w x y, st = [.val (tabD T), .val (.int n), .val (.int a), v, w, x, y]) ∧ ∀ b c d, b < k → ¬ Bad T (a, b, c, d)) (Rq T) ⟨⟨v, w, x, y, rfl⟩, fun b c d hc h => by have := h.1; simp at this; omega⟩ (fun k st ⟨⟨v, w, x, y, e⟩, _⟩ => by rw [e]; exact (by decide : 3 < 7)) (by
        rintro k hk hkn st ⟨⟨v, w, x, y, rfl⟩, hb⟩
        rcases L1 a k _ (by omega) hkn ⟨w, x, y, rfl⟩ with ⟨st', h1, ⟨w', x', y', rfl⟩, h2⟩ | ⟨r, h1, h2⟩
        · refine .inl ⟨_, h1, ⟨_, w', x', y', rfl⟩, fun b c d hc => ?_⟩
          by_cases hck : b = k
          · subst hck
            exact h2 c d
          · exact hb b c d (by omega)
        · exact .inr ⟨r, h1, h2⟩)
    have r1 : r62 ((a : Int) + 1) = true := r62_of (by omega) (by omega)
    have r2 : r62 (n : Int) = true := r62_of (by omega) (by omega)
    rw [show ((a + 1 : Nat) : Int) = (a : Int) + 1 by omega] at hl
    rcases hl with ⟨st', h1, ⟨v', w', x', y', rfl⟩, h2⟩ | ⟨r, h1, h2⟩
    · refine .inl ⟨_, ?_, ⟨v', w', x', y', rfl⟩, fun b c d h => h2 b c d (by have := h.2.2.2.1; have := h.2.2.1; have := h.2.1; simp at *; omega) h⟩
      unfold b_clash_3
      simp [r1, r2, h1]
    · refine .inr ⟨r, ?_, h2⟩
      unfold b_clash_3
      simp [r1, r2, h1]
  have L3 := loop_rngR (Φ := phi [G_three_sums]) (cs := cs) (body := b_clash_3) (j := 2) (a := 0) (b := n) (st := [.val (tabD T), .val (.int n), .und, .und, .und, .und, .und]) (by omega)
      (fun k st => (∃ u v w x y, st = [.val (tabD T), .val (.int n), u, v, w, x, y]) ∧ ∀ a b c d, a < k → ¬ Bad T (a, b, c, d)) (Rq T) ⟨⟨_, _, _, _, _, rfl⟩, fun a b c d hc h => by omega⟩ (fun k st ⟨⟨u, v, w, x, y, e⟩, _⟩ => by rw [e]; exact (by decide : 2 < 7)) (by
        rintro k hk hkn st ⟨⟨u, v, w, x, y, rfl⟩, hb⟩
        rcases L2 k _ hkn ⟨v, w, x, y, rfl⟩ with ⟨st', h1, ⟨v', w', x', y', rfl⟩, h2⟩ | ⟨r, h1, h2⟩
        · refine .inl ⟨_, h1, ⟨_, v', w', x', y', rfl⟩, fun a b c d hc => ?_⟩
          by_cases hck : a = k
          · subst hck
            exact h2 b c d
          · exact hb a b c d (by omega)
        · exact .inr ⟨r, h1, h2⟩)
  have r2 : r62 (n : Int) = true := r62_of (by omega) (by omega)
  have hn : (T.length : Int) + 1 = (n : Int) := by omega
  have hlen : lenD [tabD T] = some (.int (T.length : Int)) := by
    show some (D.int ((T.map rowD).length : Int)) = _
    rw [List.length_map]
  rw [show ((0 : Nat) : Int) = 0 from rfl] at L3
  unfold G_clash runF m_clash
  rcases L3 with ⟨st', h1, ⟨u, v, w, x, y, rfl⟩, h2⟩ | ⟨r, h1, q, hq, rfl⟩
  · refine .inl ⟨?_, fun q h => h2 q.1 q.2.1 q.2.2.1 q.2.2.2 (by have := h.1; have := h.2.1; have := h.2.2.1; have := h.2.2.2.1; omega) h⟩
    simp [startS, hlen, hn, r2, h1]
  · refine .inr ⟨q, hq, ?_⟩
    simp [startS, hlen, hn, r2, h1]
theorem real_ok {T : Tab} (hT : Shp T) (hw : Whl T) : ∃ b, G_is_real [tabD T] = some (.bl b) ∧ (b = true ↔ ∀ q, ¬ Bad T q) := by
  unfold G_is_real runF m_is_real
  rcases clash_ok hT hw with ⟨h1, h2⟩ | ⟨q, h1, h2⟩
  · exact ⟨true, by simp [startS, h1, isNonD], fun _ => h2, fun _ => rfl⟩
  · refine ⟨false, by simp [startS, h2, q4, isNonD], (fun h => by cases h), fun h => absurd h1 (h q)⟩
/-! ### the law's fours -/
theorem fours_body {T : Tab} (hT : Shp T) (hw : Whl T) {a b c d : Nat} {m1 m2 m3 : Slot} {n : Int} {ds : List D} (ab : a < b) (bc : b < c) (cd : c < d) (hd : d ≤ T.length) (hl : ds.length ≤ lim) :
    ∃ m1' m2' m3', ex (phi [G__law_entry]) cs b__law_fours_0 [.val (tabD T), .lst ds, .val (.int n), .val (.int a), .val (.int b), .val (.int c), .val (.int d), m1, m2, m3] = some (.nx [.val (tabD T), .lst (if 1 < spr T a b c d then ds ++ [q4 (a, b, c, d)] else ds), .val (.int n), .val (.int a), .val (.int b), .val (.int c), .val (.int d), m1', m2', m3']) := by
  have e1 := law_entry_eq hT (a := a) (b := b) (by omega) (by omega)
  have e2 := law_entry_eq hT (a := c) (b := d) (by omega) (by omega)
  have e3 := law_entry_eq hT (a := a) (b := c) (by omega) (by omega)
  have e4 := law_entry_eq hT (a := b) (b := d) (by omega) (by omega)
  have e5 := law_entry_eq hT (a := a) (b := d) (by omega) (by omega)
  have e6 := law_entry_eq hT (a := b) (b := c) (by omega) (by omega)
  rw [hw.at (by omega) (by omega) (by omega)] at e1 e2 e3 e4 e5 e6
  refine ⟨.val (.int (s1 T a b c d)), .val (.int (s2 T a b c d)), .val (.int (s3 T a b c d)), ?_⟩
  unfold b__law_fours_0
  by_cases h : 1 < spr T a b c d
  · rw [if_pos h]
    unfold spr s1 s2 s3 at h
    unfold q4 s1 s2 s3
    have hl' : ds.length ≤ 100000 := hl
    simp [e1, e2, e3, e4, e5, e6, h, appS, hl', lim]
  · rw [if_neg h]
    unfold spr s1 s2 s3 at h
    unfold s1 s2 s3
    simp [e1, e2, e3, e4, e5, e6, h, appS, hl, lim]
def FourL (T : Tab) (xs : List (Nat × Nat × Nat × Nat)) (P : Nat × Nat × Nat × Nat → Prop) : Prop := ∀ q, q ∈ xs ↔ P q
theorem fours_ok {T : Tab} (hT : Shp T) (hw : Whl T) (h10 : T.length + 1 ≤ 10) : ∃ xs : List (Nat × Nat × Nat × Nat), G__law_fours [tabD T] = some (.lst (xs.map q4)) ∧ ∀ q, q ∈ xs ↔ Bad T q := by
  let n : Nat := T.length + 1
  have M0 : ∀ (a b c : Nat) (xs : List (Nat × Nat × Nat × Nat)), a < b → b < c → c < n → xs.length ≤ 50000 → ∀ x y z w, ∃ (ys : List (Nat × Nat × Nat × Nat)) (x' y' z' w' : Slot), ex (phi [G__law_entry]) cs b__law_fours_1 [.val (tabD T), .lst (xs.map q4), .val (.int n), .val (.int a), .val (.int b), .val (.int c), x, y, z, w] = some (.nx [.val (tabD T), .lst (ys.map q4), .val (.int n), .val (.int a), .val (.int b), .val (.int c), x', y', z', w']) ∧
      ys.length ≤ xs.length + 10 ∧ ∀ q, q ∈ ys ↔ q ∈ xs ∨ ∃ d, q = (a, b, c, d) ∧ Bad T q := by
    intro a b c xs ab bc cn hxs x y z w
    obtain ⟨st', h1, ys, x', y', z', w', e, h2, h3⟩ := loop_rng (Φ := phi [G__law_entry]) (cs := cs) (body := b__law_fours_0) (j := 6) (a := c + 1) (b := n) (st := [.val (tabD T), .lst (xs.map q4), .val (.int n), .val (.int a), .val (.int b), .val (.int c), x, y, z, w]) (by omega)
      (fun k st => ∃ (ys : List (Nat × Nat × Nat × Nat)) (x' y' z' w' : Slot), st = [.val (tabD T), .lst (ys.map q4), .val (.int n), .val (.int a), .val (.int b), .val (.int c), x', y', z', w'] ∧ ys.length ≤ xs.length + k ∧ ∀ q, q ∈ ys ↔ q ∈ xs ∨ ∃ d, q = (a, b, c, d) ∧ d < k ∧ Bad T q)
      ⟨xs, x, y, z, w, rfl, by omega, fun q => ⟨fun h => .inl h, fun h => h.elim id fun ⟨d, e, hd, hb⟩ => by subst e; have := hb.2.2.1; simp at this; omega⟩⟩ (fun k st ⟨ys, x, y, z, w, e, _⟩ => by rw [e]; exact (by decide : 6 < 10)) fun k hk hkn st ⟨ys, x, y, z, w, e, hl, hm⟩ => by
        subst e
        obtain ⟨m1, m2, m3, hb⟩ := fours_body (m1 := y) (m2 := z) (m3 := w) (n := n) (ds := ys.map q4) hT hw ab bc (show c < k by omega) (by omega) (by rw [List.length_map]; unfold lim; omega)
        by_cases h : 1 < spr T a b c k
        · rw [if_pos h] at hb
          refine ⟨_, hb, ys ++ [(a, b, c, k)], _, _, _, _, by rw [List.map_append]; rfl, by rw [List.length_append, List.length_singleton]; omega, fun q => ?_⟩
          rw [List.mem_append, hm, List.mem_singleton]
          constructor
          · rintro ((h | ⟨d, e, hd, hbd⟩) | e)
            · exact .inl h
            · exact .inr ⟨d, e, by omega, hbd⟩
            · exact .inr ⟨k, e, by omega, by subst e; exact ⟨ab, bc, by show c < k; omega, by show k ≤ T.length; omega, h⟩⟩
          · rintro (h | ⟨d, e, hd, hbd⟩)
            · exact .inl (.inl h)
            · by_cases hdk : d = k
              · exact .inr (by rw [e, hdk])
              · exact .inl (.inr ⟨d, e, by omega, hbd⟩)
        · rw [if_neg h] at hb
          refine ⟨_, hb, ys, _, _, _, _, rfl, by omega, fun q => ?_⟩
          rw [hm]
          constructor
          · rintro (h | ⟨d, e, hd, hbd⟩)
            · exact .inl h
            · exact .inr ⟨d, e, by omega, hbd⟩
          · rintro (h' | ⟨d, e, hd, hbd⟩)
            · exact .inl h'
            · by_cases hdk : d = k
              · subst hdk
                subst e
                exact absurd hbd.2.2.2.2 h
              · exact .inr ⟨d, e, by omega, hbd⟩
    subst e
    refine ⟨ys, x', y', z', w', ?_, by omega, fun q => ?_⟩
    · have r1 : r62 ((c : Int) + 1) = true := r62_of (by omega) (by omega)
      have r2 : r62 (n : Int) = true := r62_of (by omega) (by omega)
      rw [show ((c + 1 : Nat) : Int) = (c : Int) + 1 by omega] at h1
      unfold b__law_fours_1
      simp [r1, r2, h1]
    · rw [h3]
      constructor
      · rintro (h | ⟨d, e, hd, hbd⟩)
        · exact .inl h
        · exact .inr ⟨d, e, hbd⟩
      · rintro (h | ⟨d, e, hbd⟩)
        · exact .inl h
        · refine .inr ⟨d, e, ?_, hbd⟩
          subst e
          have := hbd.2.2.2.1
          simp at this
          omega
  have M1 : ∀ (a b : Nat) (xs : List (Nat × Nat × Nat × Nat)), a < b → b < n → xs.length ≤ 40000 → ∀ u x y z w, ∃ (ys : List (Nat × Nat × Nat × Nat)) (u' x' y' z' w' : Slot), ex (phi [G__law_entry]) cs b__law_fours_2 [.val (tabD T), .lst (xs.map q4), .val (.int n), .val (.int a), .val (.int b), u, x, y, z, w] = some (.nx [.val (tabD T), .lst (ys.map q4), .val (.int n), .val (.int a), .val (.int b), u', x', y', z', w']) ∧
      ys.length ≤ xs.length + 100 ∧ ∀ q, q ∈ ys ↔ q ∈ xs ∨ ∃ c d, q = (a, b, c, d) ∧ Bad T q := by
    intro a b xs ab bn hxs u x y z w
    obtain ⟨st', h1, ys, u', x', y', z', w', e, h2, h3⟩ := loop_rng (Φ := phi [G__law_entry]) (cs := cs) (body := b__law_fours_1) (j := 5) (a := b + 1) (b := n) (st := [.val (tabD T), .lst (xs.map q4), .val (.int n), .val (.int a), .val (.int b), u, x, y, z, w]) (by omega)
      (fun k st => ∃ (ys : List (Nat × Nat × Nat × Nat)) (u' x' y' z' w' : Slot), st = [.val (tabD T), .lst (ys.map q4), .val (.int n), .val (.int a), .val (.int b), u', x', y', z', w'] ∧ ys.length ≤ xs.length + 10 * k ∧ ∀ q, q ∈ ys ↔ q ∈ xs ∨ ∃ c d, q = (a, b, c, d) ∧ c < k ∧ Bad T q)
      ⟨xs, u, x, y, z, w, rfl, by omega, fun q => ⟨fun h => .inl h, fun h => h.elim id fun ⟨c, d, e, hd, hb⟩ => by subst e; have := hb.2.1; simp at this; omega⟩⟩ (fun k st ⟨ys, u, x, y, z, w, e, _⟩ => by rw [e]; exact (by decide : 5 < 10)) fun k hk hkn st ⟨ys, u, x, y, z, w, e, hl, hm⟩ => by
        subst e
        obtain ⟨zs, x', y', z', w', hb, g1, g2⟩ := M0 a b k ys ab (by omega) hkn (by omega) x y z w
        refine ⟨_, hb, zs, _, _, _, _, _, rfl, by omega, fun q => ?_⟩
        rw [g2, hm]
        constructor
        · rintro ((h | ⟨c, d, e, hd, hbd⟩) | ⟨d, e, hbd⟩)
          · exact .inl h
          · exact .inr ⟨c, d, e, by omega, hbd⟩
          · exact .inr ⟨k, d, e, by omega, hbd⟩
        · rintro (h | ⟨c, d, e, hd, hbd⟩)
          · exact .inl (.inl h)
          · by_cases hck : c = k
            · subst hck
              exact .inr ⟨d, e, hbd⟩
            · exact .inl (.inr ⟨c, d, e, by omega, hbd⟩)
    subst e
    refine ⟨ys, u', x', y', z', w', ?_, by omega, fun q => ?_⟩
    · have r1 : r62 ((b : Int) + 1) = true := r62_of (by omega) (by omega)
      have r2 : r62 (n : Int) = true := r62_of (by omega) (by omega)
      rw [show ((b + 1 : Nat) : Int) = (b : Int) + 1 by omega] at h1
      unfold b__law_fours_2
      simp [r1, r2, h1]
    · rw [h3]
      constructor
      · rintro (h | ⟨c, d, e, hd, hbd⟩)
        · exact .inl h
        · exact .inr ⟨c, d, e, hbd⟩
      · rintro (h | ⟨c, d, e, hbd⟩)
        · exact .inl h
        · refine .inr ⟨c, d, e, ?_, hbd⟩
          subst e
          have := hbd.2.2.2.1
          have := hbd.2.2.1
          simp at *
          omega
  have M2 : ∀ (a : Nat) (xs : List (Nat × Nat × Nat × Nat)), a < n → xs.length ≤ 30000 → ∀ v u x y z w, ∃ (ys : List (Nat × Nat × Nat × Nat)) (v' u' x' y' z' w' : Slot), ex (phi [G__law_entry]) cs b__law_fours_3 [.val (tabD T), .lst (xs.map q4), .val (.int n), .val (.int a), v, u, x, y, z, w] = some (.nx [.val (tabD T), .lst (ys.map q4), .val (.int n), .val (.int a), v', u', x', y', z', w']) ∧
      ys.length ≤ xs.length + 1000 ∧ ∀ q, q ∈ ys ↔ q ∈ xs ∨ ∃ b c d, q = (a, b, c, d) ∧ Bad T q := by
    intro a xs an hxs v u x y z w
    obtain ⟨st', h1, ys, v', u', x', y', z', w', e, h2, h3⟩ := loop_rng (Φ := phi [G__law_entry]) (cs := cs) (body := b__law_fours_2) (j := 4) (a := a + 1) (b := n) (st := [.val (tabD T), .lst (xs.map q4), .val (.int n), .val (.int a), v, u, x, y, z, w]) (by omega)
      (fun k st => ∃ (ys : List (Nat × Nat × Nat × Nat)) (v' u' x' y' z' w' : Slot), st = [.val (tabD T), .lst (ys.map q4), .val (.int n), .val (.int a), v', u', x', y', z', w'] ∧ ys.length ≤ xs.length + 100 * k ∧ ∀ q, q ∈ ys ↔ q ∈ xs ∨ ∃ b c d, q = (a, b, c, d) ∧ b < k ∧ Bad T q)
      ⟨xs, v, u, x, y, z, w, rfl, by omega, fun q => ⟨fun h => .inl h, fun h => h.elim id fun ⟨b, c, d, e, hd, hb⟩ => by subst e; have := hb.1; simp at this; omega⟩⟩ (fun k st ⟨ys, v, u, x, y, z, w, e, _⟩ => by rw [e]; exact (by decide : 4 < 10)) fun k hk hkn st ⟨ys, v, u, x, y, z, w, e, hl, hm⟩ => by
        subst e
        obtain ⟨zs, u', x', y', z', w', hb, g1, g2⟩ := M1 a k ys (by omega) hkn (by omega) u x y z w
        refine ⟨_, hb, zs, _, _, _, _, _, _, rfl, by omega, fun q => ?_⟩
        rw [g2, hm]
        constructor
        · rintro ((h | ⟨b, c, d, e, hd, hbd⟩) | ⟨c, d, e, hbd⟩)
          · exact .inl h
          · exact .inr ⟨b, c, d, e, by omega, hbd⟩
          · exact .inr ⟨k, c, d, e, by omega, hbd⟩
        · rintro (h | ⟨b, c, d, e, hd, hbd⟩)
          · exact .inl (.inl h)
          · by_cases hck : b = k
            · subst hck
              exact .inr ⟨c, d, e, hbd⟩
            · exact .inl (.inr ⟨b, c, d, e, by omega, hbd⟩)
    subst e
    refine ⟨ys, v', u', x', y', z', w', ?_, by omega, fun q => ?_⟩
    · have r1 : r62 ((a : Int) + 1) = true := r62_of (by omega) (by omega)
      have r2 : r62 (n : Int) = true := r62_of (by omega) (by omega)
      rw [show ((a + 1 : Nat) : Int) = (a : Int) + 1 by omega] at h1
      unfold b__law_fours_3
      simp [r1, r2, h1]
    · rw [h3]
      constructor
      · rintro (h | ⟨b, c, d, e, hd, hbd⟩)
        · exact .inl h
        · exact .inr ⟨b, c, d, e, hbd⟩
      · rintro (h | ⟨b, c, d, e, hbd⟩)
        · exact .inl h
        · refine .inr ⟨b, c, d, e, ?_, hbd⟩
          subst e
          have := hbd.2.2.2.1
          have := hbd.2.2.1
          have := hbd.2.1
          simp at *
          omega
  obtain ⟨st', h1, ys, t', v', u', x', y', z', w', e, h2, h3⟩ := loop_rng (Φ := phi [G__law_entry]) (cs := cs) (body := b__law_fours_3) (j := 3) (a := 0) (b := n) (st := [.val (tabD T), .lst [], .val (.int n), .und, .und, .und, .und, .und, .und, .und]) (by omega)
    (fun k st => ∃ (ys : List (Nat × Nat × Nat × Nat)) (t' v' u' x' y' z' w' : Slot), st = [.val (tabD T), .lst (ys.map q4), .val (.int n), t', v', u', x', y', z', w'] ∧ ys.length ≤ 1000 * k ∧ ∀ q, q ∈ ys ↔ ∃ a b c d, q = (a, b, c, d) ∧ a < k ∧ Bad T q)
    ⟨[], _, _, _, _, _, _, _, rfl, by show 0 ≤ _; omega, fun q => ⟨(fun h => nomatch h), fun ⟨a, b, c, d, e, hd, hb⟩ => by omega⟩⟩ (fun k st ⟨ys, t, v, u, x, y, z, w, e, _⟩ => by rw [e]; exact (by decide : 3 < 10)) fun k hk hkn st ⟨ys, t, v, u, x, y, z, w, e, hl, hm⟩ => by
      subst e
      obtain ⟨zs, v', u', x', y', z', w', hb, g1, g2⟩ := M2 k ys hkn (by omega) v u x y z w
      refine ⟨_, hb, zs, _, _, _, _, _, _, _, rfl, by omega, fun q => ?_⟩
      rw [g2, hm]
      constructor
      · rintro (⟨a, b, c, d, e, hd, hbd⟩ | ⟨b, c, d, e, hbd⟩)
        · exact ⟨a, b, c, d, e, by omega, hbd⟩
        · exact ⟨k, b, c, d, e, by omega, hbd⟩
      · rintro ⟨a, b, c, d, e, hd, hbd⟩
        by_cases hck : a = k
        · subst hck
          exact .inr ⟨b, c, d, e, hbd⟩
        · exact .inl ⟨a, b, c, d, e, by omega, hbd⟩
  subst e
  refine ⟨ys, ?_, fun q => ?_⟩
  · have r2 : r62 (n : Int) = true := r62_of (by omega) (by omega)
    have hn : (T.length : Int) + 1 = (n : Int) := by omega
    have hlen : lenD [tabD T] = some (.int (T.length : Int)) := by
      show some (D.int ((T.map rowD).length : Int)) = _
      rw [List.length_map]
    rw [show ((0 : Nat) : Int) = 0 from rfl] at h1
    unfold G__law_fours runF m__law_fours
    simp [startS, lim, hlen, hn, r2, h1]
  · rw [h3]
    constructor
    · rintro ⟨a, b, c, d, e, _, hbd⟩
      exact hbd
    · intro h
      exact ⟨q.1, q.2.1, q.2.2.1, q.2.2.2, rfl, by have := h.1; have := h.2.1; have := h.2.2.1; have := h.2.2.2.1; omega, h⟩
end PW
/-! PL4: changed tables. -/
namespace PW
open DL
/-- a place of a table -/
def pl (T : Tab) (i j : Nat) : Option Int := (T.getD i []).getD j none
theorem ent_pl (T : Tab) (a b : Nat) : ent T a b = if a < b then pl T a (b - a - 1) else if b < a then pl T b (a - b - 1) else none := rfl
/-- one entry is put -/
def putT (T : Tab) (i j : Nat) (v : Option Int) : Tab := T.set i ((T.getD i []).set j v)
theorem getD_set {α : Type} (l : List α) (i k : Nat) (x d : α) : (l.set i x).getD k d = if i = k ∧ i < l.length then x else l.getD k d := by
  rw [List.getD_eq_getElem?_getD, List.getD_eq_getElem?_getD, List.getElem?_set]
  by_cases h : i = k
  · subst h
    by_cases h2 : i < l.length
    · rw [if_pos rfl, if_pos h2, if_pos ⟨rfl, h2⟩]
      rfl
    · rw [if_pos rfl, if_neg h2, if_neg (fun z => h2 z.2), List.getElem?_eq_none (by omega)]
  · rw [if_neg h, if_neg (fun z => h z.1)]
theorem putT_pl {T : Tab} {i j : Nat} {v : Option Int} (hi : i < T.length) (hj : j < (T.getD i []).length) (k l : Nat) : pl (putT T i j v) k l = if i = k ∧ j = l then v else pl T k l := by
  unfold pl putT
  rw [getD_set]
  by_cases h : i = k
  · subst h
    rw [if_pos ⟨rfl, hi⟩, getD_set]
    by_cases h2 : j = l
    · rw [if_pos ⟨h2, hj⟩, if_pos ⟨rfl, h2⟩]
    · rw [if_neg (fun z => h2 z.1), if_neg (fun z => h2 z.2)]
  · rw [if_neg (fun z => h z.1), if_neg (fun z => h z.1)]
theorem putT_len {T : Tab} {i j : Nat} {v : Option Int} : (putT T i j v).length = T.length := by
  unfold putT
  rw [List.length_set]
theorem putT_row {T : Tab} {i j : Nat} {v : Option Int} (hi : i < T.length) (k : Nat) : ((putT T i j v).getD k []).length = (T.getD k []).length := by
  unfold putT
  rw [getD_set]
  by_cases h : i = k
  · subst h
    rw [if_pos ⟨rfl, hi⟩, List.length_set]
  · rw [if_neg (fun z => h z.1)]
theorem putT_shp {T : Tab} {i j : Nat} {v : Option Int} (hT : Shp T) (hi : i < T.length) : Shp (putT T i j v) := by
  refine ⟨by rw [putT_len]; exact hT.1, fun k hk => ?_⟩
  rw [putT_len] at hk ⊢
  rw [putT_row hi, hT.2 k hk]
/-- T' is T with at most n known entries changed (to known ones) -/
structure Chg (n : Nat) (T T' : Tab) : Prop where
  len : T'.length = T.length
  shp : Shp T → Shp T'
  known : ∀ i j, (pl T' i j).isSome = (pl T i j).isSome
  few : ∃ ps : List (Nat × Nat), ps.length ≤ n ∧ ∀ i j, (i, j) ∉ ps → pl T' i j = pl T i j
theorem Chg.refl (T : Tab) : Chg 0 T T := ⟨rfl, id, fun _ _ => rfl, [], Nat.le_refl _, fun _ _ _ => rfl⟩
theorem Chg.whl {n : Nat} {T T' : Tab} (c : Chg n T T') (h : Whl T) : Whl T' := fun a b hab ha hb => by
  have e : (ent T' a b).isSome = (ent T a b).isSome := by
    rw [ent_pl, ent_pl]
    split
    · exact c.known _ _
    · split
      · exact c.known _ _
      · rfl
  rw [c.len] at ha hb
  obtain ⟨i, hi⟩ := h a b hab ha hb
  rw [hi] at e
  exact Option.isSome_iff_exists.mp e
theorem Chg.put {n : Nat} {T T' : Tab} (c : Chg n T T') {i j : Nat} {v : Int} (hi : i < T'.length) (hj : j < (T'.getD i []).length) (hk : (pl T' i j).isSome = true) : Chg (n + 1) T (putT T' i j (some v)) := by
  obtain ⟨ps, h1, h2⟩ := c.few
  refine ⟨putT_len.trans c.len, fun h => putT_shp (c.shp h) hi, fun k l => ?_, (i, j) :: ps, by rw [List.length_cons]; omega, fun k l h => ?_⟩
  · rw [putT_pl hi hj, ← c.known]
    split
    · rename_i h
      obtain ⟨rfl, rfl⟩ := h
      rw [hk]
      rfl
    · rfl
  · rw [putT_pl hi hj, if_neg (fun z => h (by rw [← z.1, ← z.2]; exact List.mem_cons_self))]
    exact h2 k l fun z => h (List.mem_cons_of_mem _ z)
theorem Chg.mono {n m : Nat} {T T' : Tab} (c : Chg n T T') (h : n ≤ m) : Chg m T T' := by
  obtain ⟨ps, h1, h2⟩ := c.few
  exact ⟨c.len, c.shp, c.known, ps, by omega, h2⟩
theorem toTD_rows (T : Tab) : toTD [.lst (T.map rowD)] = some (tabD T) := rfl
/-- rows as data -/
def rowsOf (T : Tab) : List (List D) := T.map fun r => r.map oD
theorem rowsD_tab : ∀ (T : Tab), rowsD (T.map rowD) = some (rowsOf T)
  | [] => rfl
  | r :: T => by
    have := rowsD_tab T
    show (match seqD (rowD r), rowsD (T.map rowD) with | some ds, some rest => some (ds :: rest) | _, _ => none) = _
    rw [this]
    rfl
theorem rowsOf_len (T : Tab) : (rowsOf T).length = T.length := by
  unfold rowsOf
  rw [List.length_map]
theorem rowsOf_at {T : Tab} {i : Nat} (h : i < T.length) : (rowsOf T)[i]? = some ((T.getD i []).map oD) := by
  unfold rowsOf
  rw [List.getElem?_map, List.getElem?_eq_getElem h, List.getD_eq_getElem?_getD, List.getElem?_eq_getElem h]
  rfl
theorem row_at {T : Tab} {i j : Nat} (h : j < (T.getD i []).length) : ((T.getD i []).map oD)[j]? = some (oD (pl T i j)) := by
  unfold pl
  rw [List.getElem?_map, List.getElem?_eq_getElem h, List.getD_eq_getElem?_getD (l := T.getD i []), List.getElem?_eq_getElem h]
  rfl
theorem rowsOf_put {T : Tab} {i j : Nat} {v : Option Int} (hi : i < T.length) : (rowsOf T).set i (((T.getD i []).map oD).set j (oD v)) = rowsOf (putT T i j v) := by
  unfold rowsOf putT
  rw [List.map_set, List.map_set]
theorem ixN_nat {n i : Nat} (h : i < n) : L2.ixN n (i : Int) = some i := by
  unfold L2.ixN
  rw [if_pos (by omega), if_pos (by omega)]
  rfl
/-- the rows, seen as a list -/
theorem rows_ix {T : Tab} {i : Nat} (h : i < T.length) : L2.atI ((rowsOf T).map D.lst) (i : Int) = some (.lst ((T.getD i []).map oD)) := by
  rw [atI_nat_eq, List.getElem?_map, rowsOf_at h]
  rfl
theorem rowl_ix {T : Tab} {i j : Nat} (h : j < (T.getD i []).length) : L2.atI ((T.getD i []).map oD) (j : Int) = some (oD (pl T i j)) := by
  rw [atI_nat_eq, row_at h]
def steps5 : List Int := [1, -1, 2, -2, 3]
theorem fmod_nat {x : Int} {n : Nat} (h : 0 < n) : ∃ k : Nat, x.fmod n = k ∧ k < n := by
  obtain ⟨a, b⟩ := fmod_lt (x := x) (p := (n : Int)) (by omega)
  exact ⟨(x.fmod n).toNat, by omega, by omega⟩
theorem changed_body {T T' : Tab} {ds : List Int} {k n : Nat} {x y z : Slot} (hT : Shp T') (h1 : 1 ≤ T'.length) (hl : 8 ≤ ds.length) (hk : k < 2) (hc : Chg n T T') :
    ∃ (T2 : Tab) (x' y' : Slot), ex (phi []) cs b__law_changed_0 [.val (tabD T), .val (.lst (ds.map D.int)), .rows (rowsOf T'), .val (.int k), x, y, z] = some (.nx [.val (tabD T), .val (.lst (ds.map D.int)), .rows (rowsOf T2), .val (.int k), x', y', z]) ∧ Chg (n + 1) T T2 := by
  obtain ⟨i, e1, hi⟩ := fmod_nat (x := dg ds (1 + k)) (n := T'.length) (by omega)
  have hr := hT.2 i hi
  obtain ⟨j, e2, hj⟩ := fmod_nat (x := dg ds (3 + k)) (n := (T'.getD i []).length) (by omega)
  obtain ⟨s, e3, hs⟩ := fmod_nat (x := dg ds (5 + k)) (n := 5) (by omega)
  have d1 : L2.atI (ds.map D.int) (1 + (k : Int)) = some (.int (dg ds (1 + k))) := by
    have := dig_at (ds := ds) (i := 1 + k) (by omega)
    rw [← this]
    congr 1
  have d3 : L2.atI (ds.map D.int) (3 + (k : Int)) = some (.int (dg ds (3 + k))) := by
    have := dig_at (ds := ds) (i := 3 + k) (by omega)
    rw [← this]
    congr 1
  have d5 : L2.atI (ds.map D.int) (5 + (k : Int)) = some (.int (dg ds (5 + k))) := by
    have := dig_at (ds := ds) (i := 5 + k) (by omega)
    rw [← this]
    congr 1
  have e3' : (dg ds (5 + k)).fmod 5 = (s : Int) := e3
  have st : ∃ v, L2.atI [D.int 1, D.int (-1), D.int 2, D.int (-2), D.int 3] (s : Int) = some (.int v) := by
    have : s = 0 ∨ s = 1 ∨ s = 2 ∨ s = 3 ∨ s = 4 := by omega
    rcases this with h | h | h | h | h <;> subst h <;> exact ⟨_, rfl⟩
  obtain ⟨v, hv⟩ := st
  have zi' : ¬ T' = [] := fun z => by rw [z] at h1; exact absurd h1 (by decide)
  have q1 := rows_ix hi
  have q2 := rowl_ix hj
  have q3 := rowsOf_at hi
  have q5 := ixN_nat hi
  have q6 := ixN_nat hj
  have q7 : ((T'.getD i []).map oD).length = (T'.getD i []).length := List.length_map oD
  have q8 : ∀ v : Int, (rowsOf T').set i (((T'.getD i []).map oD).set j (.int v)) = rowsOf (putT T' i j (some v)) := fun v => rowsOf_put (v := some v) hi
  have hput : ∀ v : Int, (pl T' i j).isSome = true → Chg (n + 1) T (putT T' i j (some v)) := fun v hs => hc.put hi hj hs
  generalize ((T'.getD i []).map oD) = L at *
  generalize (T'.getD i []).length = m at *
  have zm : ¬ L = [] := fun z => by rw [z] at q7; exact absurd q7.symm (by show ¬ m = 0; omega)
  have zm2 : ¬ m = 0 := by omega
  unfold b__law_changed_0
  cases hp : pl T' i j with
  | none =>
    rw [hp] at q2
    refine ⟨T', .val (.int i), .val (.int j), ?_, hc.mono (by omega)⟩
    simp [d1, d3, d5, e1, e2, rowsOf_len, zi', q1, q2, q7, zm, zm2, isNonD]
  | some w =>
    rw [hp] at q2
    refine ⟨putT T' i j (some (w + v)), .val (.int i), .val (.int j), ?_, hput _ (by rw [hp]; rfl)⟩
    rw [← q8]
    simp [d1, d3, d5, e1, e2, e3', rowsOf_len, zi', q1, q2, q3, q5, q6, q7, zm, zm2, isNonD, hv, lim, setRS]
theorem changed_ok {T : Tab} {ds : List Int} (hT : Shp T) (h1 : 1 ≤ T.length) (hl : 8 ≤ ds.length) : ∃ T', G__law_changed [tabD T, .lst (ds.map D.int)] = some (tabD T') ∧ Chg 2 T T' ∧ (Chg (1 + ((dg ds 0).fmod 2).toNat) T T') := by
  obtain ⟨c, e0, hc⟩ := fmod_nat (x := dg ds 0) (n := 2) (by omega)
  have e0' : (dg ds 0).fmod 2 = (c : Int) := e0
  have d0 : L2.atI (ds.map D.int) 0 = some (.int (dg ds 0)) := dig_at (i := 0) (by omega)
  obtain ⟨st', g1, T', x, y, z, e, g2⟩ := loop_rng (Φ := phi []) (cs := cs) (body := b__law_changed_0) (j := 3) (a := 0) (b := 1 + c) (st := [.val (tabD T), .val (.lst (ds.map D.int)), .rows (rowsOf T), .und, .und, .und, .und]) (Nat.zero_le _)
    (fun k st => ∃ (T' : Tab) (u x y : Slot), st = [.val (tabD T), .val (.lst (ds.map D.int)), .rows (rowsOf T'), u, x, y, .und] ∧ Chg k T T') ⟨T, .und, .und, .und, rfl, Chg.refl T⟩ (fun k st ⟨T', u, x, y, e, _⟩ => by rw [e]; exact (by decide : 3 < 7)) fun k _ hk st ⟨T', u, x, y, e, hch⟩ => by
      subst e
      obtain ⟨T2, x', y', h2, h3⟩ := changed_body (T := T) (T' := T') (ds := ds) (k := k) (x := x) (y := y) (z := .und) (hch.shp hT) (by rw [hch.len]; exact h1) hl (by omega) hch
      exact ⟨_, h2, T2, _, _, _, rfl, h3⟩
  subst e
  have hr : r62 (1 + (c : Int)) = true := r62_of (by omega) (by omega)
  rw [show ((0 : Nat) : Int) = 0 from rfl, show ((1 + c : Nat) : Int) = 1 + (c : Int) by omega] at g1
  have hlen := g2.len
  have c1 : ∀ (ρ : Env), ρ[2]? = some (some (.lst ((rowsOf T').map D.lst))) → 7 ≤ ρ.length → ev (phi []) cs (.comp [6] [6] false (.var 2) (.bl true) (.blt .toT (.cons (.var 6) .nil))) ρ = some (.lst (T'.map rowD)) := by
    intro ρ h2 hlen2
    refine comp_map (g := fun r : List (Option Int) => D.lst (r.map oD)) (xs := T') ?_ (by rw [hlen]; have := hT.1; omega) fun r hr => ?_
    · rw [ev_var, h2]
      show itemsO (some (.lst ((T'.map fun r => r.map oD).map D.lst))) = _
      rw [List.map_map]
      rfl
    · simp [List.getElem?_set, show 6 < ρ.length by omega, toTD, rowD]
  refine ⟨T', ?_, g2.mono (by omega), by rw [e0', Int.toNat_natCast]; exact g2⟩
  unfold G__law_changed runF m__law_changed
  have hown : ex (phi []) cs (.ownR 2 [6] 6 (.var 0)) [.val (tabD T), .val (.lst (ds.map D.int)), .und, .und, .und, .und, .und] = some (.nx [.val (tabD T), .val (.lst (ds.map D.int)), .rows (rowsOf T), .und, .und, .und, .und]) := by
    show (if 6 < 7 then setS _ 2 (match itemsO (some (tabD T)) with | some ds => if ds.length ≤ 4096 then (match rowsD ds with | some dss => some (Slot.rows dss) | none => none) else none | none => none) else none) = _
    rw [if_pos (by decide)]
    show setS _ 2 (if (T.map rowD).length ≤ 4096 then (match rowsD (T.map rowD) with | some dss => some (Slot.rows dss) | none => none) else none) = _
    rw [if_pos (by rw [List.length_map]; have := hT.1; omega), rowsD_tab]
    rfl
  simp [startS, hown, d0, e0', hr, g1, c1, toTD_rows]
end PW
/-! PL5: the law's own closed walks. -/
namespace PW
open DL
abbrev Mp := List ((Int × Int) × Int)
/-- the numbers known to the law: further entries first -/
def e2 (T : Tab) (m : Mp) (a b : Nat) : Option Int := match dlook m ((a : Int), (b : Int)) with
  | some v => some v
  | none => ent T a b
@[simp] theorem keyD_t (i j : Int) : keyD (.tup [.int i, .int j]) = some (i, j) := Eq.trans rfl rfl
@[simp] theorem dget2D_d (m : Mp) (i j : Int) (x : D) : dget2D (.dic m) (.tup [.int i, .int j]) x = some (match dlook m (i, j) with | some v => .int v | none => x) := Eq.trans rfl rfl
@[simp] theorem dgetD_d (m : Mp) (i j : Int) : dgetD (.dic m) (.tup [.int i, .int j]) = (dlook m (i, j)).map D.int := Eq.trans rfl rfl
@[simp] theorem dinD_f (m : Mp) (i j : Int) : dinD false (.tup [.int i, .int j]) (.dic m) = some (.bl (dlook m (i, j)).isSome) := Eq.trans rfl rfl
@[simp] theorem dinD_t (m : Mp) (i j : Int) : dinD true (.tup [.int i, .int j]) (.dic m) = some (.bl (!(dlook m (i, j)).isSome)) := Eq.trans rfl rfl
theorem lenD_tab (T : Tab) : lenD [tabD T] = some (.int (T.length : Int)) := by
  show some (D.int ((T.map rowD).length : Int)) = _
  rw [List.length_map]
def lineD (T : Tab) (m : Mp) (a k : Nat) : List D := (List.range k).map fun b => oD (e2 T m a b)
theorem lineD_succ (T : Tab) (m : Mp) (a k : Nat) : lineD T m a (k + 1) = lineD T m a k ++ [oD (e2 T m a k)] := by
  unfold lineD
  rw [List.range_succ, List.map_append]
  rfl
theorem lineD_len (T : Tab) (m : Mp) (a k : Nat) : (lineD T m a k).length = k := by
  unfold lineD
  rw [List.length_map, List.length_range]
theorem lineD_at {T : Tab} {m : Mp} {a k b : Nat} (h : b < k) : L2.atI (lineD T m a k) (b : Int) = some (oD (e2 T m a b)) := by
  unfold lineD
  rw [atI_nat_eq, List.getElem?_map, List.getElem?_range h]
  rfl
def linesD (T : Tab) (m : Mp) (n k : Nat) : List D := (List.range k).map fun a => .lst (lineD T m a n)
theorem linesD_succ (T : Tab) (m : Mp) (n k : Nat) : linesD T m n (k + 1) = linesD T m n k ++ [.lst (lineD T m k n)] := by
  unfold linesD
  rw [List.range_succ, List.map_append]
  rfl
theorem linesD_len (T : Tab) (m : Mp) (n k : Nat) : (linesD T m n k).length = k := by
  unfold linesD
  rw [List.length_map, List.length_range]
theorem linesD_at {T : Tab} {m : Mp} {n k a : Nat} (h : a < k) : L2.atI (linesD T m n k) (a : Int) = some (.lst (lineD T m a n)) := by
  unfold linesD
  rw [atI_nat_eq, List.getElem?_map, List.getElem?_range h]
  rfl
theorem square_eq {T : Tab} {m : Mp} (hT : Shp T) : G__law_square [tabD T, .dic m] = some (.lst (linesD T m (T.length + 1) (T.length + 1))) := by
  let n : Nat := T.length + 1
  have hl := hT.1
  have r2 : r62 (n : Int) = true := r62_of (by omega) (by omega)
  have hn : (T.length : Int) + 1 = (n : Int) := by omega
  have L : ∀ (a : Nat) (rows : List D) (x y : Slot), a < n → rows.length ≤ lim → ∃ x' y', ex (phi [G__law_entry]) cs b__law_square_1 [.val (tabD T), .val (.dic m), .val (.int n), .lst rows, .val (.int a), x, y] = some (.nx [.val (tabD T), .val (.dic m), .val (.int n), .lst (rows ++ [.lst (lineD T m a n)]), .val (.int a), x', y']) := by
    intro a rows x y ha hrl
    obtain ⟨st', h1, y', e⟩ := loop_rng (Φ := phi [G__law_entry]) (cs := cs) (body := b__law_square_0) (j := 6) (a := 0) (b := n) (st := [.val (tabD T), .val (.dic m), .val (.int n), .lst rows, .val (.int a), .lst [], y]) (Nat.zero_le _)
      (fun k st => ∃ y, st = [.val (tabD T), .val (.dic m), .val (.int n), .lst rows, .val (.int a), .lst (lineD T m a k), y]) ⟨y, rfl⟩ (fun k st ⟨y, e⟩ => by rw [e]; exact (by decide : 6 < 7)) fun k _ hk st ⟨y, e⟩ => by
        subst e
        refine ⟨_, ?_, .val (.int k), rfl⟩
        have he := law_entry_eq hT (a := a) (b := k) (by omega) (by omega)
        have hlim : (lineD T m a k).length ≤ 100000 := by rw [lineD_len]; omega
        rw [lineD_succ]
        unfold b__law_square_0
        cases hd : dlook m ((a : Int), (k : Int)) with
        | some v =>
          have : e2 T m a k = some v := by unfold e2; rw [hd]
          simp [he, lim, hd, appS, hlim, this]
        | none =>
          have : e2 T m a k = ent T a k := by unfold e2; rw [hd]
          rw [this]
          cases hent : ent T a k with
          | none => rw [hent] at he; simp [he, lim, hd, appS, hlim]
          | some v => rw [hent] at he; simp [he, lim, hd, appS, hlim]
    subst e
    rw [show ((0 : Nat) : Int) = 0 from rfl] at h1
    refine ⟨.val (.lst (lineD T m a n)), y', ?_⟩
    unfold b__law_square_1
    have hrl' : rows.length ≤ 100000 := hrl
    simp [lim, r2, h1, appFS, hrl']
  obtain ⟨st', h1, x, y, z, e⟩ := loop_rng (Φ := phi [G__law_entry]) (cs := cs) (body := b__law_square_1) (j := 4) (a := 0) (b := n) (st := [.val (tabD T), .val (.dic m), .val (.int n), .lst [], .und, .und, .und]) (Nat.zero_le _)
    (fun k st => ∃ x y z, st = [.val (tabD T), .val (.dic m), .val (.int n), .lst (linesD T m n k), x, y, z]) ⟨_, _, _, rfl⟩ (fun k st ⟨x, y, z, e⟩ => by rw [e]; exact (by decide : 4 < 7)) fun k _ hk st ⟨x, y, z, e⟩ => by
      subst e
      obtain ⟨x', y', h⟩ := L k (linesD T m n k) y z hk (by rw [linesD_len]; unfold lim; omega)
      exact ⟨_, h, _, _, _, by rw [linesD_succ]⟩
  subst e
  rw [show ((0 : Nat) : Int) = 0 from rfl] at h1
  unfold G__law_square runF m__law_square
  simp [startS, lim, lenD_tab, hn, r2, h1]
  rfl
end PW
/-! MA: closures (no program in sight). -/
namespace MA
abbrev Fn := Nat → Nat → Option Int
def put (F : Fn) (i j : Nat) (v : Int) : Fn := fun a b => if a = i ∧ b = j then some v else F a b
def comb (o a b : Option Int) : Option Int := match a, b with
  | some a, some b => some (match o with | some v => max (a + b) v | none => a + b)
  | _, _ => o
/-- one step: a way from i over k to j -/
def relax (F : Fn) (k i j : Nat) : Fn := match comb (F i j) (F i k) (F k j) with
  | some v => put F i j v
  | none => F
theorem relax_at (F : Fn) (k i j a b : Nat) : relax F k i j a b = if a = i ∧ b = j then comb (F i j) (F i k) (F k j) else F a b := by
  unfold relax
  cases h : comb (F i j) (F i k) (F k j) with
  | some v => rfl
  | none =>
    split
    · rename_i e
      obtain ⟨rfl, rfl⟩ := e
      unfold comb at h
      split at h
      · cases h
      · exact h
    · rfl
def rJ (F : Fn) (k i : Nat) : Nat → Fn
  | 0 => F
  | j + 1 => relax (rJ F k i j) k i j
def rI (F : Fn) (k n : Nat) : Nat → Fn
  | 0 => F
  | i + 1 => rJ (rI F k n i) k i n
def rK (F : Fn) (n : Nat) : Nat → Fn
  | 0 => F
  | k + 1 => rI (rK F n k) k n n
/-! ### what is kept -/
theorem comb_cases (o a b : Option Int) : comb o a b = o ∨ ∃ x y, a = some x ∧ b = some y ∧ comb o a b = some (x + y) := by
  unfold comb
  split
  · rename_i x y
    cases o with
    | none => exact .inr ⟨x, y, rfl, rfl, rfl⟩
    | some v =>
      by_cases h : x + y ≤ v
      · exact .inl (by show some (max (x + y) v) = some v; rw [Int.max_eq_right h])
      · exact .inr ⟨x, y, rfl, rfl, by show some (max (x + y) v) = _; rw [Int.max_eq_left (by omega)]⟩
  · exact .inl rfl
section
variable {P : Nat → Nat → Int → Prop}
def All (P : Nat → Nat → Int → Prop) (F : Fn) : Prop := ∀ i j v, F i j = some v → P i j v
theorem All.relax {F : Fn} (c : ∀ i j k a b, P i k a → P k j b → P i j (a + b)) (h : All P F) (k i j : Nat) : All P (relax F k i j) := by
  intro a b v e
  rw [relax_at] at e
  split at e
  · rename_i q
    obtain ⟨rfl, rfl⟩ := q
    rcases comb_cases (F a b) (F a k) (F k b) with h1 | ⟨x, y, h1, h2, h3⟩
    · rw [h1] at e
      exact h _ _ _ e
    · rw [h3] at e
      cases e
      exact c _ _ _ _ _ (h _ _ _ h1) (h _ _ _ h2)
  · exact h _ _ _ e
theorem All.rJ {F : Fn} (c : ∀ i j k a b, P i k a → P k j b → P i j (a + b)) (h : All P F) (k i : Nat) : ∀ J, All P (rJ F k i J)
  | 0 => h
  | J + 1 => All.relax c (All.rJ c h k i J) k i J
theorem All.rI {F : Fn} (c : ∀ i j k a b, P i k a → P k j b → P i j (a + b)) (h : All P F) (k n : Nat) : ∀ I, All P (rI F k n I)
  | 0 => h
  | I + 1 => All.rJ c (All.rI c h k n I) k I n
theorem All.rK {F : Fn} (c : ∀ i j k a b, P i k a → P k j b → P i j (a + b)) (h : All P F) (n : Nat) : ∀ k, All P (rK F n k)
  | 0 => h
  | k + 1 => All.rI c (All.rK c h n k) k n n
end
/-- values only grow -/
def Le (F G : Fn) : Prop := ∀ i j v, F i j = some v → ∃ w, G i j = some w ∧ v ≤ w
theorem Le.refl (F : Fn) : Le F F := fun i j v h => ⟨v, h, Int.le_refl _⟩
theorem Le.trans {F G H : Fn} (a : Le F G) (b : Le G H) : Le F H := fun i j v h => by
  obtain ⟨w, h1, h2⟩ := a i j v h
  obtain ⟨x, h3, h4⟩ := b i j w h1
  exact ⟨x, h3, by omega⟩
theorem comb_le {o a b : Option Int} {v : Int} (h : o = some v) : ∃ w, comb o a b = some w ∧ v ≤ w := by
  subst h
  unfold comb
  split
  · rename_i x y
    exact ⟨max (x + y) v, rfl, by omega⟩
  · exact ⟨v, rfl, Int.le_refl _⟩
theorem le_relax (F : Fn) (k i j : Nat) : Le F (relax F k i j) := fun a b v h => by
  rw [relax_at]
  split
  · rename_i q
    obtain ⟨rfl, rfl⟩ := q
    exact comb_le h
  · exact ⟨v, h, Int.le_refl _⟩
theorem le_rJ (F : Fn) (k i : Nat) : ∀ J, Le F (rJ F k i J)
  | 0 => Le.refl F
  | J + 1 => (le_rJ F k i J).trans (le_relax _ k i J)
theorem le_rI (F : Fn) (k n : Nat) : ∀ I, Le F (rI F k n I)
  | 0 => Le.refl F
  | I + 1 => (le_rI F k n I).trans (le_rJ _ k I n)
theorem le_rK (F : Fn) (n : Nat) : ∀ k, Le F (rK F n k)
  | 0 => Le.refl F
  | k + 1 => (le_rK F n k).trans (le_rI _ k n n)
theorem le_rK2 (F : Fn) (n : Nat) : ∀ k m, k ≤ m → Le (rK F n k) (rK F n m) := by
  intro k m
  induction m with
  | zero =>
    intro h
    have : k = 0 := by omega
    subst this
    exact Le.refl _
  | succ m ih =>
    intro h
    by_cases e : k = m + 1
    · subst e
      exact Le.refl _
    · exact (ih (by omega)).trans (le_rI _ m n n)
/-! ### one phase -/
def DOk (F : Fn) (k : Nat) : Prop := ∀ v, F k k = some v → v ≤ 0
theorem comb_col {F : Fn} {k i : Nat} (d : DOk F k) : comb (F i k) (F i k) (F k k) = F i k := by
  rcases comb_cases (F i k) (F i k) (F k k) with h | ⟨x, y, h1, h2, h3⟩
  · exact h
  · have := d y h2
    rw [h1, h2]
    show some (max (x + y) x) = some x
    rw [Int.max_eq_right (by omega)]
theorem comb_row {F : Fn} {k j : Nat} (d : DOk F k) : comb (F k j) (F k k) (F k j) = F k j := by
  rcases comb_cases (F k j) (F k k) (F k j) with h | ⟨x, y, h1, h2, h3⟩
  · exact h
  · have := d x h1
    rw [h1, h2]
    show some (max (x + y) y) = some y
    rw [Int.max_eq_right (by omega)]
theorem rJ_at {F : Fn} {k i : Nat} (d : DOk F k) : ∀ J a b, rJ F k i J a b = if a = i ∧ b < J then comb (F i b) (F i k) (F k b) else F a b
  | 0, a, b => by
    rw [if_neg (fun z => by omega)]
    rfl
  | J + 1, a, b => by
    have ih := rJ_at (F := F) (i := i) d J
    show relax (rJ F k i J) k i J a b = _
    rw [relax_at]
    have h1 : rJ F k i J i J = F i J := by rw [ih, if_neg (fun z => by omega)]
    have h2 : rJ F k i J i k = F i k := by
      rw [ih]
      split
      · exact comb_col d
      · rfl
    have h3 : rJ F k i J k J = F k J := by rw [ih, if_neg (fun z => by omega)]
    by_cases e : a = i ∧ b = J
    · obtain ⟨rfl, rfl⟩ := e
      rw [if_pos ⟨rfl, rfl⟩, if_pos ⟨rfl, by omega⟩, h1, h2, h3]
    · rw [if_neg e, ih]
      by_cases e2 : a = i ∧ b < J
      · rw [if_pos e2, if_pos ⟨e2.1, by omega⟩]
      · rw [if_neg e2, if_neg (fun z => by
          by_cases hb : b = J
          · exact e ⟨z.1, hb⟩
          · exact e2 ⟨z.1, by omega⟩)]
theorem rI_at {F : Fn} {k n : Nat} (hk : k < n) (d : DOk F k) : ∀ I a b, rI F k n I a b = if a < I ∧ b < n then comb (F a b) (F a k) (F k b) else F a b
  | 0, a, b => by
    rw [if_neg (fun z => by omega)]
    rfl
  | I + 1, a, b => by
    have ih := rI_at hk d I
    have rk : ∀ b, rI F k n I k b = F k b := fun b => by
      rw [ih]
      split
      · exact comb_row d
      · rfl
    have d2 : DOk (rI F k n I) k := fun v h => d v (by rw [rk] at h; exact h)
    have h1 : ∀ b, rI F k n I I b = F I b := fun b => by rw [ih, if_neg (fun z => by omega)]
    show rJ (rI F k n I) k I n a b = _
    rw [rJ_at d2]
    by_cases e : a = I ∧ b < n
    · obtain ⟨rfl, hb⟩ := e
      rw [if_pos ⟨rfl, hb⟩, if_pos ⟨by omega, hb⟩, h1, h1, rk]
    · rw [if_neg e, ih]
      by_cases e2 : a < I ∧ b < n
      · rw [if_pos e2, if_pos ⟨by omega, e2.2⟩]
      · rw [if_neg e2, if_neg (fun z => by
          by_cases hb : a = I
          · exact e ⟨hb, z.2⟩
          · exact e2 ⟨by omega, z.2⟩)]
/-! ### closed -/
def Cl (n : Nat) (F : Fn) (m : Nat) : Prop := ∀ i j a b, i < n → j < n → F i m = some a → F m j = some b → ∃ c, F i j = some c ∧ a + b ≤ c
theorem comb_le2 {o : Option Int} {a b : Int} : ∃ w, comb o (some a) (some b) = some w ∧ a + b ≤ w := by
  unfold comb
  cases o with
  | none => exact ⟨a + b, rfl, Int.le_refl _⟩
  | some v => exact ⟨max (a + b) v, rfl, by omega⟩
theorem closed_phase {F : Fn} {k n : Nat} (hk : k < n) (d : DOk F k) (h : ∀ m, m < k → Cl n F m) : ∀ m, m < k + 1 → Cl n (rI F k n n) m := by
  intro m hm i j a b hi hj h1 h2
  have at_ : ∀ a b, a < n → b < n → rI F k n n a b = comb (F a b) (F a k) (F k b) := fun a b ha hb => by rw [rI_at hk d, if_pos ⟨ha, hb⟩]
  have ge : ∀ a b v, a < n → b < n → F a b = some v → ∃ w, rI F k n n a b = some w ∧ v ≤ w := fun a b v ha hb e => le_rI F k n n a b v e
  have ge2 : ∀ a b x y, a < n → b < n → F a k = some x → F k b = some y → ∃ w, rI F k n n a b = some w ∧ x + y ≤ w := fun a b x y ha hb e1 e2 => by
    rw [at_ a b ha hb, e1, e2]
    exact comb_le2
  by_cases e : m = k
  · subst e
    rw [at_ i m hi hk, comb_col d] at h1
    rw [at_ m j hk hj, comb_row d] at h2
    exact ge2 i j a b hi hj h1 h2
  · have hm' : m < k := by omega
    have hmn : m < n := by omega
    rw [at_ i m hi hmn] at h1
    rw [at_ m j hmn hj] at h2
    rcases comb_cases (F i m) (F i k) (F k m) with c1 | ⟨x, y, c1, c2, c3⟩
    · rw [c1] at h1
      rcases comb_cases (F m j) (F m k) (F k j) with c4 | ⟨z, w, c4, c5, c6⟩
      · rw [c4] at h2
        obtain ⟨c, g1, g2⟩ := h m hm' i j a b hi hj h1 h2
        obtain ⟨c', g3, g4⟩ := ge i j c hi hj g1
        exact ⟨c', g3, by omega⟩
      · rw [c6] at h2
        cases h2
        obtain ⟨c, g1, g2⟩ := h m hm' i k a z hi hk h1 c4
        obtain ⟨c', g3, g4⟩ := ge2 i j c w hi hj g1 c5
        exact ⟨c', g3, by omega⟩
    · rw [c3] at h1
      cases h1
      rcases comb_cases (F m j) (F m k) (F k j) with c4 | ⟨z, w, c4, c5, c6⟩
      · rw [c4] at h2
        obtain ⟨c, g1, g2⟩ := h m hm' k j y b hk hj c2 h2
        obtain ⟨c', g3, g4⟩ := ge2 i j x c hi hj c1 g1
        exact ⟨c', g3, by omega⟩
      · rw [c6] at h2
        cases h2
        obtain ⟨c, g1, g2⟩ := h m hm' k k y z hk hk c2 c4
        have := d c g1
        obtain ⟨c', g3, g4⟩ := ge2 i j x w hi hj c1 c5
        exact ⟨c', g3, by omega⟩
/-- where no loop is positive at the end, the end is closed -/
theorem closed {F : Fn} {n : Nat} (hd : ∀ i, i < n → DOk (rK F n n) i) : ∀ m, m < n → Cl n (rK F n n) m := by
  have gen : ∀ k, k ≤ n → ∀ m, m < k → Cl n (rK F n k) m := by
    intro k
    induction k with
    | zero => exact fun _ m h => by omega
    | succ k ih =>
      intro hk
      refine closed_phase (by omega) (fun v h => ?_) (ih (by omega))
      obtain ⟨w, h1, h2⟩ := le_rK2 F n k n (by omega) k k v h
      have := hd k (by omega) w h1
      omega
  exact gen n (Nat.le_refl _)
end MA
/-! MB: tables and weights (no program in sight). -/
namespace MA
/-! ### a number between -/
theorem min_of : ∀ (rs : List Int), rs ≠ [] → ∃ m, m ∈ rs ∧ ∀ r, r ∈ rs → m ≤ r
  | [], h => absurd rfl h
  | [r], _ => ⟨r, List.mem_cons_self, fun x hx => by rw [List.mem_singleton.mp hx]; exact Int.le_refl _⟩
  | r :: s :: rs, _ => by
    obtain ⟨m, h1, h2⟩ := min_of (s :: rs) (by intro h; cases h)
    by_cases h : r ≤ m
    · refine ⟨r, List.mem_cons_self, fun x hx => ?_⟩
      rcases List.mem_cons.mp hx with z | z
      · rw [z]; exact Int.le_refl _
      · have := h2 x z; omega
    · refine ⟨m, List.mem_cons_of_mem _ h1, fun x hx => ?_⟩
      rcases List.mem_cons.mp hx with z | z
      · rw [z]; omega
      · exact h2 x z
theorem max_of (rs : List Int) (h : rs ≠ []) : ∃ m, m ∈ rs ∧ ∀ r, r ∈ rs → r ≤ m := by
  obtain ⟨m, h1, h2⟩ := min_of (rs.map fun x => -x) (by cases rs with | nil => exact absurd rfl h | cons _ _ => simp)
  obtain ⟨x, hx, e⟩ := List.mem_map.mp h1
  refine ⟨x, hx, fun r hr => ?_⟩
  have := h2 (-r) (List.mem_map.mpr ⟨r, hr, rfl⟩)
  omega
/-- lower and upper bounds d apart (d ≥ 0): a number between, gap g on both sides -/
theorem between (ls rs : List Int) (g : Int) (hg : 0 ≤ g) (h : ∀ l, l ∈ ls → ∀ r, r ∈ rs → l + 2 * g ≤ r) : ∃ t, (∀ l, l ∈ ls → l + g ≤ t) ∧ ∀ r, r ∈ rs → t + g ≤ r := by
  by_cases hl : ls = []
  · by_cases hr : rs = []
    · subst hl hr
      exact ⟨0, (fun l h => nomatch h), fun l h => nomatch h⟩
    · obtain ⟨m, h1, h2⟩ := min_of rs hr
      subst hl
      exact ⟨m - g, (fun l h => nomatch h), fun r hr => by have := h2 r hr; omega⟩
  · obtain ⟨m, h1, h2⟩ := max_of ls hl
    exact ⟨m + g, fun l hl => by have := h2 l hl; omega, fun r hr => by have := h m h1 r hr; omega⟩
/-- the numbers of a partial function below n -/
def vals (n : Nat) (f : Nat → Option Int) : List Int := (List.range n).filterMap f
theorem mem_vals {n : Nat} {f : Nat → Option Int} {v : Int} : v ∈ vals n f ↔ ∃ i, i < n ∧ f i = some v := by
  unfold vals
  rw [List.mem_filterMap]
  constructor
  · rintro ⟨i, h1, h2⟩
    exact ⟨i, List.mem_range.mp h1, h2⟩
  · rintro ⟨i, h1, h2⟩
    exact ⟨i, List.mem_range.mpr h1, h2⟩

/-! ### potentials of a closed function -/
def Pot (n : Nat) (G : Fn) (U : Int) (x : Nat → Int) : Prop := ∀ i j v, i < n → j < n → G i j = some v → v * U < x i - x j
theorem pot_exists {n : Nat} {G : Fn} (hd : ∀ i v, i < n → G i i = some v → v < 0) (hc : ∀ m, m < n → Cl n G m) : ∃ U x, 0 < U ∧ Pot n G U x := by
  have gen : ∀ k, k ≤ n → ∃ U x, 0 < U ∧ Pot k G U x := by
    intro k
    induction k with
    | zero => exact fun _ => ⟨1, fun _ => 0, by omega, fun i j v hi => by omega⟩
    | succ k ih =>
      intro hk
      obtain ⟨U, x, hU, hp⟩ := ih (by omega)
      obtain ⟨t, t1, t2⟩ := between (vals k fun j => (G k j).map fun v => 2 * x j + 2 * (v * U)) (vals k fun i => (G i k).map fun v => 2 * x i - 2 * (v * U)) 1 (by omega) (fun l hl r hr => by
        obtain ⟨j, hj, e1⟩ := mem_vals.mp hl
        obtain ⟨i, hi, e2⟩ := mem_vals.mp hr
        rw [Option.map_eq_some_iff] at e1 e2
        obtain ⟨a, ea, rfl⟩ := e1
        obtain ⟨b, eb, rfl⟩ := e2
        obtain ⟨c, ec, hcle⟩ := hc k (by omega) i j b a (by omega) (by omega) eb ea
        have h1 := hp i j c hi hj ec
        have h2 : (b + a) * U ≤ c * U := Int.mul_le_mul_of_nonneg_right hcle (by omega)
        rw [Int.add_mul] at h2
        omega)
      refine ⟨2 * U, fun i => if i = k then t else 2 * x i, by omega, fun i j v hi hj e => ?_⟩
      have e2 : v * (2 * U) = 2 * (v * U) := by rw [← Int.mul_assoc, Int.mul_comm v 2, Int.mul_assoc]
      rw [e2]
      by_cases h1 : i = k
      · by_cases h2 : j = k
        · rw [h1, h2] at e ⊢
          have hv := hd k v (by omega) e
          have : v * U < 0 := Int.mul_neg_of_neg_of_pos hv hU
          simp only [if_true]
          omega
        · subst h1
          have : 2 * x j + 2 * (v * U) + 1 ≤ t := t1 _ (mem_vals.mpr ⟨j, by omega, by show (G i j).map _ = _; rw [e]; rfl⟩)
          simp only [if_true, if_neg h2]
          omega
      · by_cases h2 : j = k
        · subst h2
          have : t + 1 ≤ 2 * x i - 2 * (v * U) := t2 _ (mem_vals.mpr ⟨i, by omega, by show (G i j).map _ = _; rw [e]; rfl⟩)
          simp only [if_true, if_neg h1]
          omega
        · have := hp i j v (by omega) (by omega) e
          simp only [if_neg h1, if_neg h2]
          omega
  exact gen n (Nat.le_refl _)

/-! ### scales -/
/-- weights (and a unit) that have all numbers of E -/
def Fit (n : Nat) (E : Fn) (U : Int) (w : Nat → Int) : Prop := 0 < U ∧ ∀ i c v, i < n → c < n → E i c = some v → v * U ≤ w i + w c ∧ w i + w c < (v + 1) * U
def Sol (n : Nat) (E : Fn) : Prop := ∃ U w, Fit n E U w
/-- the first steps: F i j is the largest of E i c - E j c - 1 -/
structure Step0 (n : Nat) (E F : Fn) : Prop where
  lo : ∀ i j c a b, i < n → j < n → c < n → E i c = some a → E j c = some b → ∃ v, F i j = some v ∧ a - b - 1 ≤ v
  ex : ∀ i j v, F i j = some v → i < n ∧ j < n ∧ ∃ c a b, c < n ∧ E i c = some a ∧ E j c = some b ∧ v = a - b - 1
theorem step_pot {n : Nat} {E F : Fn} {U : Int} {w : Nat → Int} (s : Step0 n E F) (h : Fit n E U w) : All (fun i j v => v * U < w i - w j) F := fun i j v e => by
  obtain ⟨hi, hj, c, a, b, hc, e1, e2, e3⟩ := s.ex i j v e
  obtain ⟨hU, h⟩ := h
  have h1 := (h i c a hi hc e1).1
  have h2 := (h j c b hj hc e2).2
  rw [e3]
  have : (a - b - 1) * U = a * U - (b + 1) * U := by rw [← Int.sub_mul]; congr 1; omega
  omega
/-- all values behind fits: none is 0 or more on the diagonal -/
theorem sol_diag {n : Nat} {E F : Fn} (s : Step0 n E F) (h : Sol n E) : ∀ i v, rK F n n i i = some v → v < 0 := by
  obtain ⟨U, w, h⟩ := h
  intro i v e
  have := All.rK (P := fun i j v => v * U < w i - w j) (fun i j k a b h1 h2 => by
    have : (a + b) * U = a * U + b * U := Int.add_mul a b U
    show (a + b) * U < w i - w j
    have h1 : a * U < w i - w k := h1
    have h2 : b * U < w k - w j := h2
    omega) (step_pot s h) n n i i v e
  have hv : v * U < 0 := by
    have : v * U < w i - w i := this
    omega
  have hU := h.1
  by_cases c : v < 0
  · exact c
  · have := Int.mul_nonneg (show 0 ≤ v by omega) (Int.le_of_lt hU)
    omega
/-- from potentials to weights -/
theorem sol_of_pot {n : Nat} {E G : Fn} (sym : ∀ a b, E a b = E b a) (lo : ∀ i j c a b, i < n → j < n → c < n → E i c = some a → E j c = some b → ∃ v, G i j = some v ∧ a - b - 1 ≤ v) {U : Int} {x : Nat → Int} (hU : 0 < U) (hp : Pot n G U x) : Sol n E := by
  have yc : ∀ c, ∃ y, c < n → ∀ i v, i < n → E i c = some v → v * U ≤ x i + y ∧ x i + y < (v + 1) * U := by
    intro c
    by_cases hc : c < n
    · obtain ⟨t, t1, t2⟩ := between (vals n fun i => (E i c).map fun v => v * U - x i) (vals n fun i => (E i c).map fun v => (v + 1) * U - 1 - x i) 0 (by omega) (fun l hl r hr => by
        obtain ⟨i, hi, e1⟩ := mem_vals.mp hl
        obtain ⟨j, hj, e2⟩ := mem_vals.mp hr
        rw [Option.map_eq_some_iff] at e1 e2
        obtain ⟨a, ea, rfl⟩ := e1
        obtain ⟨b, eb, rfl⟩ := e2
        obtain ⟨v, ev, hv⟩ := lo i j c a b hi hj hc ea eb
        have h1 := hp i j v hi hj ev
        have h2 : (a - b - 1) * U ≤ v * U := Int.mul_le_mul_of_nonneg_right hv (by omega)
        have h3 : (a - b - 1) * U = a * U - (b + 1) * U := by rw [← Int.sub_mul]; congr 1; omega
        omega)
      refine ⟨t, fun _ i v hi e => ⟨?_, ?_⟩⟩
      · have : v * U - x i + 0 ≤ t := t1 _ (mem_vals.mpr ⟨i, hi, by show (E i c).map _ = _; rw [e]; rfl⟩)
        omega
      · have : t + 0 ≤ (v + 1) * U - 1 - x i := t2 _ (mem_vals.mpr ⟨i, hi, by show (E i c).map _ = _; rw [e]; rfl⟩)
        omega
    · exact ⟨0, fun h => absurd h hc⟩
  let y : Nat → Int := fun c => Classical.choose (yc c)
  have hy : ∀ c, c < n → ∀ i v, i < n → E i c = some v → v * U ≤ x i + y c ∧ x i + y c < (v + 1) * U := fun c => Classical.choose_spec (yc c)
  refine ⟨2 * U, fun i => x i + y i, by omega, fun i c v hi hc e => ?_⟩
  have h1 := hy c hc i v hi e
  have h2 := hy i hi c v hc (by rw [sym]; exact e)
  have e1 : v * (2 * U) = 2 * (v * U) := by rw [← Int.mul_assoc, Int.mul_comm v 2, Int.mul_assoc]
  have e2 : (v + 1) * (2 * U) = 2 * ((v + 1) * U) := by rw [← Int.mul_assoc, Int.mul_comm (v + 1) 2, Int.mul_assoc]
  rw [e1, e2]
  show 2 * (v * U) ≤ x i + y i + (x c + y c) ∧ x i + y i + (x c + y c) < 2 * ((v + 1) * U)
  omega
/-- the law's closed walks decide whether there are weights -/
theorem fits_iff {n : Nat} {E F : Fn} (sym : ∀ a b, E a b = E b a) (s : Step0 n E F) : (∀ i, i < n → ∀ v, rK F n n i i = some v → v < 0) ↔ Sol n E := by
  constructor
  · intro h
    obtain ⟨U, x, hU, hp⟩ := pot_exists (n := n) (G := rK F n n) (fun i v hi e => h i hi v e) (closed fun i hi v e => by have := h i hi v e; omega)
    refine sol_of_pot sym (fun i j c a b hi hj hc e1 e2 => ?_) hU hp
    obtain ⟨v, h1, h2⟩ := s.lo i j c a b hi hj hc e1 e2
    obtain ⟨w, h3, h4⟩ := le_rK F n n i j v h1
    exact ⟨w, h3, by omega⟩
  · exact fun h i _ v e => sol_diag s h i v e
/-! ### whole tables: four points -/
/-- all numbers of different parcels are known (the function v), no other -/
def Whole (n : Nat) (E : Fn) (v : Nat → Nat → Int) : Prop := (∀ a b, E a b = E b a) ∧ ∀ a b, a < n → b < n → E a b = if a = b then none else some (v a b)
def Four (n : Nat) (v : Nat → Nat → Int) : Prop := ∀ a b c d, a < n → b < n → c < n → d < n → a ≠ b → a ≠ c → a ≠ d → b ≠ c → b ≠ d → c ≠ d → v a b + v c d ≤ v a c + v b d + 1
/-- the largest of finitely many -/
def mx (n : Nat) (f : Nat → Option Int) : Option Int := match vals n f with
  | [] => none
  | l => match l.max? with
    | some m => some m
    | none => none
theorem step0_exists (n : Nat) (E : Fn) : ∃ F, Step0 n E F := by
  have h : ∀ i j, ∃ o : Option Int, (∀ c a b, i < n → j < n → c < n → E i c = some a → E j c = some b → ∃ v, o = some v ∧ a - b - 1 ≤ v) ∧ ∀ v, o = some v → i < n ∧ j < n ∧ ∃ c a b, c < n ∧ E i c = some a ∧ E j c = some b ∧ v = a - b - 1 := by
    intro i j
    by_cases hij : i < n ∧ j < n
    · let l := vals n fun c => match E i c, E j c with
        | some a, some b => some (a - b - 1)
        | _, _ => none
      by_cases hl : l = []
      · refine ⟨none, fun c a b _ _ hc e1 e2 => ?_, fun v h => nomatch h⟩
        have : a - b - 1 ∈ l := mem_vals.mpr ⟨c, hc, by rw [e1, e2]⟩
        rw [hl] at this
        cases this
      · obtain ⟨m, h1, h2⟩ := max_of l hl
        refine ⟨some m, fun c a b _ _ hc e1 e2 => ⟨m, rfl, h2 _ (mem_vals.mpr ⟨c, hc, by rw [e1, e2]⟩)⟩, fun v h => ?_⟩
        cases h
        obtain ⟨c, hc, e⟩ := mem_vals.mp h1
        split at e
        · rename_i a b e1 e2
          cases e
          exact ⟨hij.1, hij.2, c, a, b, hc, e1, e2, rfl⟩
        · cases e
    · exact ⟨none, fun c a b hi hj => absurd ⟨hi, hj⟩ hij, fun v h => nomatch h⟩
  refine ⟨fun i j => Classical.choose (h i j), fun i j c a b hi hj hc e1 e2 => (Classical.choose_spec (h i j)).1 c a b hi hj hc e1 e2, fun i j v e => (Classical.choose_spec (h i j)).2 v e⟩
theorem four_iff {n : Nat} {E : Fn} {v : Nat → Nat → Int} (w : Whole n E v) : Four n v ↔ Sol n E := by
  obtain ⟨sym, hE⟩ := w
  have vs : ∀ a b, a < n → b < n → a ≠ b → v a b = v b a := fun a b ha hb h => by
    have h1 := hE a b ha hb
    have h2 := hE b a hb ha
    rw [sym, h2, if_neg h, if_neg (Ne.symm h)] at h1
    exact (Option.some.inj h1).symm
  have hv : ∀ a b x, a < n → b < n → E a b = some x → a ≠ b ∧ x = v a b := fun a b x ha hb e => by
    rw [hE a b ha hb] at e
    split at e
    · cases e
    · cases e
      exact ⟨by assumption, rfl⟩
  constructor
  · intro h
    obtain ⟨F, s⟩ := step0_exists n E
    have up : ∀ i j c, i < n → j < n → c < n → c ≠ i → c ≠ j → ∃ x, F i j = some x ∧ v i c - v j c - 1 ≤ x := fun i j c hi hj hc h1 h2 => s.lo i j c _ _ hi hj hc (by rw [hE i c hi hc, if_neg (Ne.symm h1)]) (by rw [hE j c hj hc, if_neg (Ne.symm h2)])
    have dn : ∀ i j x, F i j = some x → i < n ∧ j < n ∧ ∃ c, c < n ∧ c ≠ i ∧ c ≠ j ∧ x = v i c - v j c - 1 := fun i j x e => by
      obtain ⟨hi, hj, c, a, b, hc, e1, e2, e3⟩ := s.ex i j x e
      obtain ⟨h1, h2⟩ := hv i c a hi hc e1
      obtain ⟨h3, h4⟩ := hv j c b hj hc e2
      exact ⟨hi, hj, c, hc, Ne.symm h1, Ne.symm h3, by rw [e3, h2, h4]⟩
    have hd : ∀ i x, i < n → F i i = some x → x < 0 := fun i x hi e => by
      obtain ⟨_, _, c, _, _, _, e3⟩ := dn i i x e
      omega
    have cl : ∀ m, m < n → Cl n F m := by
      intro m hm i j a b hi hj e1 e2
      obtain ⟨_, _, c, hc, ci, cm, ea⟩ := dn i m a e1
      obtain ⟨_, _, d, hdn, dm, dj, eb⟩ := dn m j b e2
      subst ea
      subst eb
      by_cases hij : i = j
      · subst hij
        obtain ⟨x, hx, hle⟩ := up i i c hi hi hc ci ci
        refine ⟨x, hx, ?_⟩
        by_cases him : i = m
        · subst him
          omega
        · by_cases hcd : c = d
          · subst hcd
            omega
          · have := h i c m d hi hc hm hdn (Ne.symm ci) him (Ne.symm dj) cm hcd (Ne.symm dm)
            have s1 := vs c d hc hdn hcd
            have q := h i c m d hi hc hm hdn (Ne.symm ci) him (Ne.symm dj) cm hcd (Ne.symm dm)
            have q2 := h i c d m hi hc hdn hm (Ne.symm ci) (Ne.symm dj) him hcd cm dm
            have s2 := vs d m hdn hm dm
            have s3 := vs c m hc hm cm
            omega
      · by_cases him : i = m
        · subst him
          obtain ⟨x, hx, hle⟩ := up i j d hi hj hdn dm dj
          exact ⟨x, hx, by omega⟩
        · by_cases hmj : m = j
          · subst hmj
            obtain ⟨x, hx, hle⟩ := up i m c hi hj hc ci cm
            exact ⟨x, hx, by omega⟩
          · by_cases hcj : c = j
            · subst hcj
              by_cases hdi : d = i
              · subst hdi
                obtain ⟨x, hx, hle⟩ := up d c m hi hj hm (Ne.symm him) (hmj)
                refine ⟨x, hx, ?_⟩
                have s1 := vs d c hi hj hij
                have s2 := vs d m hi hm him
                have s3 := vs c m hj hm (Ne.symm hmj)
                omega
              · obtain ⟨x, hx, hle⟩ := up i c d hi hj hdn hdi dj
                refine ⟨x, hx, ?_⟩
                have q := h i c d m hi hj hdn hm hij (Ne.symm hdi) him (Ne.symm dj) (Ne.symm hmj) dm
                have s1 := vs d m hdn hm dm
                have s2 := vs c m hj hm (Ne.symm hmj)
                omega
            · by_cases hdi : d = i
              · subst hdi
                obtain ⟨x, hx, hle⟩ := up d j c hi hj hc ci hcj
                refine ⟨x, hx, ?_⟩
                have q := h m d c j hm hi hc hj (Ne.symm him) (Ne.symm cm) hmj (Ne.symm ci) hij hcj
                have s1 := vs c j hc hj hcj
                have s2 := vs d j hi hj hij
                omega
              · by_cases hcd : c = d
                · subst hcd
                  obtain ⟨x, hx, hle⟩ := up i j c hi hj hc ci hcj
                  exact ⟨x, hx, by omega⟩
                · obtain ⟨x, hx, hle⟩ := up i j d hi hj hdn hdi dj
                  refine ⟨x, hx, ?_⟩
                  have q := h i c d m hi hc hdn hm (Ne.symm ci) (Ne.symm hdi) him hcd cm dm
                  have s1 := vs d m hdn hm dm
                  have s2 := vs c m hc hm cm
                  omega
    obtain ⟨U, x, hU, hp⟩ := pot_exists hd cl
    exact sol_of_pot sym s.lo hU hp
  · rintro ⟨U, w, hU, hf⟩ a b c d ha hb hc hd ab ac ad bc bd cd
    have h1 := hf a b _ ha hb (by rw [hE a b ha hb, if_neg ab])
    have h2 := hf c d _ hc hd (by rw [hE c d hc hd, if_neg cd])
    have h3 := hf a c _ ha hc (by rw [hE a c ha hc, if_neg ac])
    have h4 := hf b d _ hb hd (by rw [hE b d hb hd, if_neg bd])
    have e : (v a b + v c d) * U < (v a c + v b d + 2) * U := by
      have e1 : (v a b + v c d) * U = v a b * U + v c d * U := Int.add_mul _ _ _
      have e2 : (v a c + v b d + 2) * U = (v a c + 1) * U + (v b d + 1) * U := by rw [← Int.add_mul]; congr 1; omega
      omega
    have := Int.lt_of_mul_lt_mul_right e (Int.le_of_lt hU)
    omega
end MA
/-! PL6: the law's own closed walks decide whether there are weights. -/
namespace PW
open DL MA
theorem dlook_dput (k : Int × Int) (v : Int) (k' : Int × Int) (m : Mp) : dlook (dput m k v) k' = if k' = k then some v else dlook m k' := by
  have h1 : ∀ m : Mp, (m.any fun p => decide (p.1 = k)) = true → dlook (m.map fun p => if p.1 = k then (p.1, v) else p) k' = if k' = k then some v else dlook m k' := by
    intro m
    induction m with
    | nil => intro h; cases h
    | cons p m ih =>
      intro h
      rw [List.any_cons, Bool.or_eq_true, decide_eq_true_eq] at h
      unfold dlook at ih ⊢
      rw [List.map_cons, List.find?_cons, List.find?_cons]
      by_cases c : p.1 = k
      · rw [if_pos c]
        by_cases c2 : k' = k
        · rw [if_pos c2]
          rw [show decide ((p.1, v).1 = k') = true from decide_eq_true (by show p.1 = k'; rw [c, c2])]
          rfl
        · rw [if_neg c2]
          have c3 : ¬ p.1 = k' := fun z => c2 (z.symm.trans c)
          rw [show decide ((p.1, v).1 = k') = false from decide_eq_false c3]
          try rw [decide_eq_false c3]
          by_cases hm : (m.any fun p => decide (p.1 = k)) = true
          · have := ih hm
            rw [if_neg c2] at this
            exact this
          · have e : (m.map fun p => if p.1 = k then (p.1, v) else p) = m := by
              have : ∀ p ∈ m, (if p.1 = k then (p.1, v) else p) = p := fun p hp => by
                rw [if_neg]
                intro z
                exact hm (List.any_eq_true.mpr ⟨p, hp, decide_eq_true z⟩)
              exact (List.map_congr_left this).trans (List.map_id m)
            rw [e]
      · rw [if_neg c]
        rcases h with h | h
        · exact absurd h c
        · by_cases c3 : p.1 = k'
          · rw [decide_eq_true c3]
            by_cases c2 : k' = k
            · exact absurd (c3.trans c2) c
            · rw [if_neg c2]
          · rw [decide_eq_false c3]
            exact ih h
  unfold dput
  split
  · rename_i h
    exact h1 m h
  · rename_i h
    unfold dlook
    rw [List.find?_append]
    by_cases c : k' = k
    · subst c
      rw [if_pos rfl]
      have : m.find? (fun p => decide (p.1 = k')) = none := by
        rw [List.find?_eq_none]
        intro p hp z
        exact h (List.any_eq_true.mpr ⟨p, hp, z⟩)
      rw [this]
      simp
    · rw [if_neg c]
      have c3 : ¬ k = k' := fun z => c z.symm
      simp [c3]
theorem dput_len (m : Mp) (k : Int × Int) (v : Int) : (dput m k v).length ≤ m.length + 1 := by
  unfold dput
  split
  · rw [List.length_map]
    omega
  · rw [List.length_append]
    exact Nat.le_refl _
/-- the dict holds the function -/
def RelM (m : Mp) (F : Fn) : Prop := ∀ i j : Nat, dlook m ((i : Int), (j : Int)) = F i j
theorem RelM.put {m : Mp} {F : Fn} (h : RelM m F) (i j : Nat) (v : Int) : RelM (dput m ((i : Int), (j : Int)) v) (put F i j v) := fun a b => by
  rw [dlook_dput, h a b]
  unfold MA.put
  by_cases c : a = i ∧ b = j
  · obtain ⟨rfl, rfl⟩ := c
    rw [if_pos rfl, if_pos ⟨rfl, rfl⟩]
  · rw [if_neg c, if_neg]
    intro z
    rw [Prod.mk.injEq] at z
    exact c ⟨by omega, by omega⟩
theorem relax_none {F : Fn} {i j k : Nat} (h : F i k = none ∨ F k j = none) : relax F k i j = F := by
  funext a b
  rw [relax_at]
  split
  · rename_i q
    obtain ⟨rfl, rfl⟩ := q
    rcases comb_cases (F a b) (F a k) (F k b) with h1 | ⟨x, y, h1, h2, _⟩
    · exact h1
    · rw [h1, h2] at h
      rcases h with h | h <;> cases h
  · rfl
theorem maxD_2' (i j : Int) : maxD [.int i, .int j] = some (.int (max i j)) := rfl
theorem fits_b0 {far : Mp} {F : Fn} {i j k : Nat} {s0 s1 s2 s3 s8 s9 s10 : Slot} (h : RelM far F) (hl : far.length ≤ 90000) :
    ∃ far' w, ex (phi [G__law_square]) cs b__law_fits_0 [s0, s1, s2, s3, .dic far, .val (.int i), .val (.int k), .val (.int j), s8, s9, s10] = some (.nx [s0, s1, s2, s3, .dic far', .val (.int i), .val (.int k), .val (.int j), s8, s9, w]) ∧ RelM far' (relax F k i j) ∧ far'.length ≤ far.length + 1 := by
  have hl' : far.length ≤ 100000 := by omega
  unfold b__law_fits_0
  have e1 := h i k
  have e2 := h k j
  have e3 := h i j
  cases h1 : F i k with
  | none =>
    refine ⟨far, s10, by simp [e1, h1, lim], ?_, by omega⟩
    rw [relax_none (.inl h1)]
    exact h
  | some a =>
    cases h2 : F k j with
    | none =>
      refine ⟨far, s10, by simp [e1, e2, h1, h2, lim], ?_, by omega⟩
      rw [relax_none (.inr h2)]
      exact h
    | some b =>
      cases h3 : F i j with
      | none =>
        refine ⟨dput far ((i : Int), (j : Int)) (a + b), .val (.int (a + b)), ?_, ?_, dput_len _ _ _⟩
        · simp [e1, e2, e3, h1, h2, h3, lim, setDS, hl', Int.max_self]
        · have : relax F k i j = MA.put F i j (a + b) := by unfold relax comb; rw [h1, h2, h3]
          rw [this]
          exact h.put i j _
      | some v =>
        refine ⟨dput far ((i : Int), (j : Int)) (max (a + b) v), .val (.int (a + b)), ?_, ?_, dput_len _ _ _⟩
        · simp [e1, e2, e3, h1, h2, h3, lim, setDS, hl']
        · have : relax F k i j = MA.put F i j (max (a + b) v) := by unfold relax comb; rw [h1, h2, h3]
          rw [this]
          exact h.put i j _
theorem fits_b1 {n : Nat} {far : Mp} {F : Fn} {i k : Nat} {s0 s1 s2 s7 s8 s9 s10 : Slot} (hn : n ≤ 12) (h : RelM far F) (hl : far.length ≤ 80000) :
    ∃ far' x w, ex (phi [G__law_square]) cs b__law_fits_1 [s0, s1, s2, .val (.int n), .dic far, .val (.int i), .val (.int k), s7, s8, s9, s10] = some (.nx [s0, s1, s2, .val (.int n), .dic far', .val (.int i), .val (.int k), x, s8, s9, w]) ∧ RelM far' (rJ F k i n) ∧ far'.length ≤ far.length + 12 := by
  obtain ⟨st', h1, far', x, w, e, h2, h3⟩ := loop_rng (Φ := phi [G__law_square]) (cs := cs) (body := b__law_fits_0) (j := 7) (a := 0) (b := n) (st := [s0, s1, s2, .val (.int n), .dic far, .val (.int i), .val (.int k), s7, s8, s9, s10]) (Nat.zero_le _)
    (fun J st => ∃ far' x w, st = [s0, s1, s2, .val (.int n), .dic far', .val (.int i), .val (.int k), x, s8, s9, w] ∧ RelM far' (rJ F k i J) ∧ far'.length ≤ far.length + J) ⟨far, s7, s10, rfl, h, by omega⟩ (fun J st ⟨far', x, w, e, _⟩ => by rw [e]; exact (by decide : 7 < 11)) fun J _ hJ st ⟨far', x, w, e, g1, g2⟩ => by
      subst e
      obtain ⟨f2, w2, a1, a2, a3⟩ := fits_b0 (i := i) (j := J) (k := k) (s0 := s0) (s1 := s1) (s2 := s2) (s3 := .val (.int n)) (s8 := s8) (s9 := s9) (s10 := w) g1 (by omega)
      exact ⟨_, a1, f2, _, w2, rfl, a2, by omega⟩
  subst e
  refine ⟨far', x, w, ?_, h2, by omega⟩
  rw [show ((0 : Nat) : Int) = 0 from rfl] at h1
  have r2 : r62 (n : Int) = true := r62_of (by omega) (by omega)
  unfold b__law_fits_1
  simp [r2, h1]
theorem fits_b2 {n : Nat} {far : Mp} {F : Fn} {k : Nat} {s0 s1 s2 s5 s7 s8 s9 s10 : Slot} (hn : n ≤ 12) (h : RelM far F) (hl : far.length ≤ 70000) :
    ∃ far' y x w, ex (phi [G__law_square]) cs b__law_fits_2 [s0, s1, s2, .val (.int n), .dic far, s5, .val (.int k), s7, s8, s9, s10] = some (.nx [s0, s1, s2, .val (.int n), .dic far', y, .val (.int k), x, s8, s9, w]) ∧ RelM far' (rI F k n n) ∧ far'.length ≤ far.length + 144 := by
  obtain ⟨st', h1, far', y, x, w, e, h2, h3⟩ := loop_rng (Φ := phi [G__law_square]) (cs := cs) (body := b__law_fits_1) (j := 5) (a := 0) (b := n) (st := [s0, s1, s2, .val (.int n), .dic far, s5, .val (.int k), s7, s8, s9, s10]) (Nat.zero_le _)
    (fun I st => ∃ far' y x w, st = [s0, s1, s2, .val (.int n), .dic far', y, .val (.int k), x, s8, s9, w] ∧ RelM far' (rI F k n I) ∧ far'.length ≤ far.length + 12 * I) ⟨far, s5, s7, s10, rfl, h, by omega⟩ (fun I st ⟨far', y, x, w, e, _⟩ => by rw [e]; exact (by decide : 5 < 11)) fun I _ hI st ⟨far', y, x, w, e, g1, g2⟩ => by
      subst e
      obtain ⟨f2, x2, w2, a1, a2, a3⟩ := fits_b1 (i := I) (k := k) (s0 := s0) (s1 := s1) (s2 := s2) (s7 := x) (s8 := s8) (s9 := s9) (s10 := w) hn g1 (by omega)
      exact ⟨_, a1, f2, _, x2, w2, rfl, a2, by omega⟩
  subst e
  refine ⟨far', y, x, w, ?_, h2, by omega⟩
  rw [show ((0 : Nat) : Int) = 0 from rfl] at h1
  have r2 : r62 (n : Int) = true := r62_of (by omega) (by omega)
  unfold b__law_fits_2
  simp [r2, h1]
/-! ### the first steps -/
def way1 (E : Fn) (i j c : Nat) : Option Int := match E i c, E j c with
  | some a, some b => some (a - b - 1)
  | _, _ => none
def F0 (n : Nat) (E : Fn) : Fn := fun i j => if i < n ∧ j < n then maxI (vals n (way1 E i j)) else none
theorem maxI_spec : ∀ (xs : List Int) (m : Int), maxI xs = some m → m ∈ xs ∧ ∀ x, x ∈ xs → x ≤ m := by
  have gen : ∀ (xs : List Int) (x : Int), (xs.foldl max x ∈ x :: xs) ∧ ∀ y, y ∈ x :: xs → y ≤ xs.foldl max x := by
    intro xs
    induction xs with
    | nil => exact fun x => ⟨List.mem_cons_self, fun y hy => by rw [List.mem_singleton.mp hy]; exact Int.le_refl _⟩
    | cons z xs ih =>
      intro x
      rw [List.foldl_cons]
      obtain ⟨h1, h2⟩ := ih (max x z)
      refine ⟨?_, fun y hy => ?_⟩
      · rcases List.mem_cons.mp h1 with h | h
        · rw [h]
          by_cases c : x ≤ z
          · rw [Int.max_eq_right c]
            exact List.mem_cons_of_mem _ List.mem_cons_self
          · rw [Int.max_eq_left (by omega)]
            exact List.mem_cons_self
        · exact List.mem_cons_of_mem _ (List.mem_cons_of_mem _ h)
      · have h3 := h2 (max x z) List.mem_cons_self
        rcases List.mem_cons.mp hy with h | h
        · rw [h]; omega
        · rcases List.mem_cons.mp h with h | h
          · rw [h]; omega
          · exact h2 y (List.mem_cons_of_mem _ h)
  intro xs m h
  cases xs with
  | nil => cases h
  | cons x xs =>
    have e : xs.foldl max x = m := Option.some.inj h
    obtain ⟨h1, h2⟩ := gen xs x
    rw [e] at h1 h2
    exact ⟨h1, h2⟩
theorem maxI_some {xs : List Int} (h : xs ≠ []) : ∃ m, maxI xs = some m := by
  cases xs with
  | nil => exact absurd rfl h
  | cons x xs => exact ⟨_, rfl⟩
theorem F0_step (n : Nat) (E : Fn) : Step0 n E (F0 n E) where
  lo := fun i j c a b hi hj hc e1 e2 => by
    have hm : a - b - 1 ∈ vals n (way1 E i j) := mem_vals.mpr ⟨c, hc, by unfold way1; rw [e1, e2]⟩
    obtain ⟨m, h⟩ := maxI_some (xs := vals n (way1 E i j)) (fun z => by rw [z] at hm; cases hm)
    refine ⟨m, by unfold F0; rw [if_pos ⟨hi, hj⟩]; exact h, (maxI_spec _ _ h).2 _ hm⟩
  ex := fun i j v e => by
    unfold F0 at e
    split at e
    · rename_i hij
      obtain ⟨c, hc, e1⟩ := mem_vals.mp (maxI_spec _ _ e).1
      unfold way1 at e1
      split at e1
      · rename_i a b h1 h2
        cases e1
        exact ⟨hij.1, hij.2, c, a, b, hc, h1, h2, rfl⟩
      · cases e1
    · cases e
theorem vals_succ (n : Nat) (f : Nat → Option Int) : vals (n + 1) f = vals n f ++ (match f n with | some v => [v] | none => []) := by
  unfold vals
  rw [List.range_succ, List.filterMap_append]
  congr 1
  rw [List.filterMap_cons, List.filterMap_nil]
  cases f n <;> rfl
theorem vals_len (n : Nat) (f : Nat → Option Int) : (vals n f).length ≤ n := by
  unfold vals
  have := List.length_filterMap_le f (List.range n)
  rw [List.length_range] at this
  exact this
/-- the rows of the square with the law's numbers -/
def wayD (E : Fn) (i j k : Nat) : List D := (vals k (way1 E i j)).map D.int
theorem wayD_len (E : Fn) (i j k : Nat) : (wayD E i j k).length ≤ k := by
  unfold wayD
  rw [List.length_map]
  exact vals_len _ _
theorem isNon_oD (o : Option Int) : isNonD (oD o) = o.isNone := by cases o <;> rfl
theorem fits_b3 {T : Tab} {m : Mp} {n i j c : Nat} {s0 s1 s3 s4 s6 s10 : Slot} (hn : n ≤ 12) (hi : i < n) (hj : j < n) (hc : c < n) :
    ex (phi [G__law_square]) cs b__law_fits_3 [s0, s1, .val (.lst (linesD T m n n)), s3, s4, .val (.int i), s6, .val (.int j), .lst (wayD (e2 T m) i j c), .val (.int c), s10] = some (.nx [s0, s1, .val (.lst (linesD T m n n)), s3, s4, .val (.int i), s6, .val (.int j), .lst (wayD (e2 T m) i j (c + 1)), .val (.int c), s10]) := by
  have q1 := linesD_at (T := T) (m := m) (n := n) hi
  have q2 := linesD_at (T := T) (m := m) (n := n) hj
  have q3 := lineD_at (T := T) (m := m) (a := i) hc
  have q4 := lineD_at (T := T) (m := m) (a := j) hc
  have hl : (wayD (e2 T m) i j c).length ≤ 100000 := by
    have := wayD_len (e2 T m) i j c
    omega
  have es : wayD (e2 T m) i j (c + 1) = wayD (e2 T m) i j c ++ (match way1 (e2 T m) i j c with | some v => [D.int v] | none => []) := by
    unfold wayD
    rw [vals_succ, List.map_append]
    congr 1
    cases way1 (e2 T m) i j c <;> rfl
  unfold b__law_fits_3
  cases h1 : e2 T m i c with
  | none =>
    have e : way1 (e2 T m) i j c = none := by unfold way1; rw [h1]
    rw [es, e]
    rw [h1] at q3
    simp [q1, q2, q3, q4, isNonD]
  | some a =>
    cases h2 : e2 T m j c with
    | none =>
      have e : way1 (e2 T m) i j c = none := by unfold way1; rw [h1, h2]
      rw [es, e]
      rw [h1] at q3
      rw [h2] at q4
      simp [q1, q2, q3, q4, isNonD]
    | some b =>
      have e : way1 (e2 T m) i j c = some (a - b - 1) := by unfold way1; rw [h1, h2]
      rw [es, e]
      rw [h1] at q3
      rw [h2] at q4
      simp [q1, q2, q3, q4, isNonD, appS, lim, hl]
theorem intsD_map : ∀ ns : List Int, intsD (ns.map D.int) = some ns
  | [] => rfl
  | n :: ns => by
    have := intsD_map ns
    simp only [List.map_cons, intsD, this]
    rfl
theorem maxD_l (ns : List Int) : maxD [.lst (ns.map D.int)] = (maxI ns).map D.int := by
  show ((intsD (ns.map D.int)).bind maxI).map D.int = _
  rw [intsD_map]
  rfl
theorem minD_l (ns : List Int) : minD [.lst (ns.map D.int)] = (minI ns).map D.int := by
  show ((intsD (ns.map D.int)).bind minI).map D.int = _
  rw [intsD_map]
  rfl
theorem okN_ints (ns : List Int) : (ns.map D.int).all (okN 0) = true := by
  rw [List.all_eq_true]
  intro d hd
  obtain ⟨x, _, rfl⟩ := List.mem_map.mp hd
  rfl
def F0p (n : Nat) (E : Fn) (I J : Nat) : Fn := fun a b => if a < I ∨ (a = I ∧ b < J) then F0 n E a b else none
theorem F0p_next {n : Nat} {E : Fn} {i j : Nat} : ∀ a b, F0p n E i (j + 1) a b = if a = i ∧ b = j then F0 n E i j else F0p n E i j a b := fun a b => by
  unfold F0p
  by_cases c : a = i ∧ b = j
  · obtain ⟨rfl, rfl⟩ := c
    rw [if_pos (by omega), if_pos ⟨rfl, rfl⟩]
  · rw [if_neg c]
    by_cases h : a < i ∨ (a = i ∧ b < j)
    · rw [if_pos h, if_pos (by omega)]
    · rw [if_neg h, if_neg (by omega)]
theorem F0p_row {n : Nat} {E : Fn} {i : Nat} : F0p n E i n = F0p n E (i + 1) 0 := by
  funext a b
  unfold F0p
  by_cases h : a < i ∨ (a = i ∧ b < n)
  · rw [if_pos h, if_pos (by omega)]
  · rw [if_neg h]
    split
    · unfold F0
      rw [if_neg (by omega)]
    · rfl
theorem F0p_all {n : Nat} {E : Fn} : F0p n E n 0 = F0 n E := by
  funext a b
  unfold F0p
  split
  · rfl
  · unfold F0
    rw [if_neg (by omega)]
theorem fits_b4 {T : Tab} {m : Mp} {n i j : Nat} {far : Mp} {s0 s1 s6 s8 s9 s10 : Slot} (hn : n ≤ 12) (hi : i < n) (hj : j < n) (h : RelM far (F0p n (e2 T m) i j)) (hl : far.length ≤ 90000) :
    ∃ far' x y, ex (phi [G__law_square]) cs b__law_fits_4 [s0, s1, .val (.lst (linesD T m n n)), .val (.int n), .dic far, .val (.int i), s6, .val (.int j), s8, s9, s10] = some (.nx [s0, s1, .val (.lst (linesD T m n n)), .val (.int n), .dic far', .val (.int i), s6, .val (.int j), x, y, s10]) ∧ RelM far' (F0p n (e2 T m) i (j + 1)) ∧ far'.length ≤ far.length + 1 := by
  obtain ⟨st', h1, y, e⟩ := loop_rng (Φ := phi [G__law_square]) (cs := cs) (body := b__law_fits_3) (j := 9) (a := 0) (b := n) (st := [s0, s1, .val (.lst (linesD T m n n)), .val (.int n), .dic far, .val (.int i), s6, .val (.int j), .lst [], s9, s10]) (Nat.zero_le _)
    (fun c st => ∃ y, st = [s0, s1, .val (.lst (linesD T m n n)), .val (.int n), .dic far, .val (.int i), s6, .val (.int j), .lst (wayD (e2 T m) i j c), y, s10]) ⟨s9, rfl⟩ (fun c st ⟨y, e⟩ => by rw [e]; exact (by decide : 9 < 11)) fun c _ hc st ⟨y, e⟩ => by
      subst e
      exact ⟨_, fits_b3 hn hi hj hc, _, rfl⟩
  subst e
  have r2 : r62 (n : Int) = true := r62_of (by omega) (by omega)
  rw [show ((0 : Nat) : Int) = 0 from rfl] at h1
  have hne := neD_nil (xs := wayD (e2 T m) i j n) (n := 0) (okN_ints _) (by decide)
  have hmx : maxD [.lst (wayD (e2 T m) i j n)] = (maxI (vals n (way1 (e2 T m) i j))).map D.int := maxD_l _
  have hF : F0 n (e2 T m) i j = maxI (vals n (way1 (e2 T m) i j)) := by unfold F0; rw [if_pos ⟨hi, hj⟩]
  have hl' : far.length ≤ 100000 := by omega
  unfold b__law_fits_4
  cases hm : maxI (vals n (way1 (e2 T m) i j)) with
  | none =>
    have he : vals n (way1 (e2 T m) i j) = [] := by
      cases hv : vals n (way1 (e2 T m) i j) with
      | nil => rfl
      | cons x xs => rw [hv] at hm; cases hm
    have hw : wayD (e2 T m) i j n = [] := by unfold wayD; rw [he]; rfl
    rw [hw] at h1 hne
    refine ⟨far, .lst [], y, ?_, fun a b => ?_, by omega⟩
    · simp [lim, r2, h1, hne]
    · rw [h a b, F0p_next]
      split
      · rename_i q
        obtain ⟨rfl, rfl⟩ := q
        rw [hF, hm]
        unfold F0p
        rw [if_neg (by omega)]
      · rfl
  | some v =>
    have he : (wayD (e2 T m) i j n).isEmpty = false := by
      unfold wayD
      cases hv : vals n (way1 (e2 T m) i j) with
      | nil => rw [hv] at hm; cases hm
      | cons x xs => rfl
    rw [he] at hne
    rw [hm] at hmx
    generalize wayD (e2 T m) i j n = W at *
    refine ⟨dput far ((i : Int), (j : Int)) v, .lst W, y, ?_, fun a b => ?_, dput_len _ _ _⟩
    · simp [lim, r2, h1, hne, hmx, setDS, hl']
    · rw [h.put i j v a b, F0p_next]
      unfold MA.put
      split
      · rw [hF, hm]
      · rfl
theorem fits_b5 {T : Tab} {m : Mp} {n i : Nat} {far : Mp} {s0 s1 s6 s7 s8 s9 s10 : Slot} (hn : n ≤ 12) (hi : i < n) (h : RelM far (F0p n (e2 T m) i 0)) (hl : far.length ≤ 80000) :
    ∃ far' z x y, ex (phi [G__law_square]) cs b__law_fits_5 [s0, s1, .val (.lst (linesD T m n n)), .val (.int n), .dic far, .val (.int i), s6, s7, s8, s9, s10] = some (.nx [s0, s1, .val (.lst (linesD T m n n)), .val (.int n), .dic far', .val (.int i), s6, z, x, y, s10]) ∧ RelM far' (F0p n (e2 T m) (i + 1) 0) ∧ far'.length ≤ far.length + 12 := by
  obtain ⟨st', h1, far', z, x, y, e, g1, g2⟩ := loop_rng (Φ := phi [G__law_square]) (cs := cs) (body := b__law_fits_4) (j := 7) (a := 0) (b := n) (st := [s0, s1, .val (.lst (linesD T m n n)), .val (.int n), .dic far, .val (.int i), s6, s7, s8, s9, s10]) (Nat.zero_le _)
    (fun J st => ∃ far' z x y, st = [s0, s1, .val (.lst (linesD T m n n)), .val (.int n), .dic far', .val (.int i), s6, z, x, y, s10] ∧ RelM far' (F0p n (e2 T m) i J) ∧ far'.length ≤ far.length + J) ⟨far, s7, s8, s9, rfl, h, by omega⟩ (fun c st ⟨f, z, x, y, e, _⟩ => by rw [e]; exact (by decide : 7 < 11)) fun J _ hJ st ⟨f, z, x, y, e, g1, g2⟩ => by
      subst e
      obtain ⟨f2, x2, y2, a1, a2, a3⟩ := fits_b4 (i := i) (j := J) (s0 := s0) (s1 := s1) (s6 := s6) (s8 := x) (s9 := y) (s10 := s10) hn hi hJ g1 (by omega)
      exact ⟨_, a1, f2, _, x2, y2, rfl, a2, by omega⟩
  subst e
  have r2 : r62 (n : Int) = true := r62_of (by omega) (by omega)
  rw [show ((0 : Nat) : Int) = 0 from rfl] at h1
  refine ⟨far', z, x, y, ?_, by rw [← F0p_row]; exact g1, by omega⟩
  unfold b__law_fits_5
  simp [r2, h1]
theorem law_fits_eq {T : Tab} {m : Mp} (hT : Shp T) (h12 : T.length + 1 ≤ 12) : ∃ b, G__law_fits [tabD T, .dic m] = some (.bl b) ∧ (b = true ↔ ∀ i, i < T.length + 1 → ∀ v, rK (F0 (T.length + 1) (e2 T m)) (T.length + 1) (T.length + 1) i i = some v → v < 0) := by
  let n : Nat := T.length + 1
  have hsq : G__law_square [tabD T, .dic m] = some (.lst (linesD T m n n)) := square_eq hT
  have hlen : ((linesD T m n n).length : Int) = (n : Int) := by rw [linesD_len]
  have r2 : r62 (n : Int) = true := r62_of (by omega) (by omega)
  obtain ⟨st1, h1, f1, x1, z1, y1, w1, e1, g1, g1'⟩ := loop_rng (Φ := phi [G__law_square]) (cs := cs) (body := b__law_fits_5) (j := 5) (a := 0) (b := n) (st := [.val (tabD T), .val (.dic m), .val (.lst (linesD T m n n)), .val (.int n), .dic [], .und, .und, .und, .und, .und, .und]) (Nat.zero_le _)
    (fun I st => ∃ far' v z x y, st = [.val (tabD T), .val (.dic m), .val (.lst (linesD T m n n)), .val (.int n), .dic far', v, .und, z, x, y, .und] ∧ RelM far' (F0p n (e2 T m) I 0) ∧ far'.length ≤ 12 * I) ⟨[], _, _, _, _, rfl, fun a b => by unfold F0p; rw [if_neg (by omega)]; rfl, by show 0 ≤ _; omega⟩ (fun c st ⟨f, v, z, x, y, e, _⟩ => by rw [e]; exact (by decide : 5 < 11)) fun I _ hI st ⟨f, v, z, x, y, e, g1, g2⟩ => by
      subst e
      obtain ⟨f2, z2, x2, y2, a1, a2, a3⟩ := fits_b5 (i := I) (s0 := .val (tabD T)) (s1 := .val (.dic m)) (s6 := .und) (s7 := z) (s8 := x) (s9 := y) (s10 := .und) h12 hI g1 (by omega)
      exact ⟨_, a1, f2, _, z2, x2, y2, rfl, a2, by omega⟩
  subst e1
  rw [F0p_all] at g1
  obtain ⟨st2, h2, f2, x2, k2, z2, w2, e2', g2, g2'⟩ := loop_rng (Φ := phi [G__law_square]) (cs := cs) (body := b__law_fits_2) (j := 6) (a := 0) (b := n) (st := [.val (tabD T), .val (.dic m), .val (.lst (linesD T m n n)), .val (.int n), .dic f1, x1, .und, z1, y1, w1, .und]) (Nat.zero_le _)
    (fun k st => ∃ far' v k' z w, st = [.val (tabD T), .val (.dic m), .val (.lst (linesD T m n n)), .val (.int n), .dic far', v, k', z, y1, w1, w] ∧ RelM far' (rK (F0 n (e2 T m)) n k) ∧ far'.length ≤ 144 + 144 * k) ⟨f1, _, _, _, _, rfl, g1, by omega⟩ (fun c st ⟨f, v, k', z, w, e, _⟩ => by rw [e]; exact (by decide : 6 < 11)) fun k _ hk st ⟨f, v, k', z, w, e, g1, g2⟩ => by
      subst e
      obtain ⟨f2, y2, x2, w2, a1, a2, a3⟩ := fits_b2 (k := k) (s0 := .val (tabD T)) (s1 := .val (.dic m)) (s2 := .val (.lst (linesD T m n n))) (s5 := v) (s7 := z) (s8 := y1) (s9 := w1) (s10 := w) h12 g1 (by omega)
      exact ⟨_, a1, f2, _, _, x2, w2, rfl, a2, by omega⟩
  subst e2'
  rw [show ((0 : Nat) : Int) = 0 from rfl] at h1 h2
  let G := rK (F0 n (e2 T m)) n n
  let p : Nat → Bool := fun i => decide (0 ≤ (G i i).getD (-1))
  have c1 : ∀ (ρ : Env), ρ[3]? = some (some (.int n)) → ρ[4]? = some (some (.dic f2)) → 11 ≤ ρ.length → ev (phi [G__law_square]) cs (.comp [5] [5] false (.rng1 (.var 3)) (.cmp .ge (.dget2 (.var 4) (.tup (.cons (.var 5) (.cons (.var 5) .nil))) (.bin .sub (.int 0) (.int 1))) (.int 0)) (.var 5)) ρ = some (.lst (((List.range n).filter p).map fun i : Nat => D.int (i : Int))) := by
    intro ρ h3 h4 hlen2
    refine comp_filter (g := fun k : Nat => D.int (k : Int)) (xs := List.range n) (p := p) (by simp [h3, r2, rngD_nat0]) (by rw [List.length_range]; omega) (fun k hk => ?_) (fun k hk _ => ?_)
    · have hg := g2 k k
      have hp : p k = decide (0 ≤ (G k k).getD (-1)) := rfl
      cases hG : G k k with
      | none =>
        rw [show rK (F0 n (e2 T m)) n n k k = none from hG] at hg
        rw [hp, hG]
        simp [h4, List.getElem?_set, show 5 < ρ.length by omega, lim, hg]
      | some v =>
        rw [show rK (F0 n (e2 T m)) n n k k = some v from hG] at hg
        rw [hp, hG]
        simp [h4, List.getElem?_set, show 5 < ρ.length by omega, lim, hg]
    · simp [List.getElem?_set, show 5 < ρ.length by omega]
  have ceq : eqD (.lst (((List.range n).filter p).map fun i : Nat => D.int (i : Int))) (.lst []) = some (.bl (((List.range n).filter p).map fun i : Nat => D.int (i : Int)).isEmpty) := eqD_nil (n := 0) (by
    rw [List.all_eq_true]
    intro d hd
    obtain ⟨x, _, rfl⟩ := List.mem_map.mp hd
    rfl) (by decide)
  generalize hW : (((List.range n).filter p).map fun i : Nat => D.int (i : Int)) = W at *
  refine ⟨W.isEmpty, ?_, ?_⟩
  · unfold G__law_fits runF m__law_fits
    simp [startS, hsq, hlen, r2, h1, h2, c1, ceq, lim]
  · rw [List.isEmpty_iff, ← hW, List.map_eq_nil_iff, List.filter_eq_nil_iff]
    constructor
    · intro h i hi v e
      have := h i (List.mem_range.mpr hi)
      have hp : p i = decide (0 ≤ (G i i).getD (-1)) := rfl
      rw [hp, show G i i = some v from e, decide_eq_true_eq] at this
      have : ¬ 0 ≤ v := this
      omega
    · intro h i hi
      have hp : p i = decide (0 ≤ (G i i).getD (-1)) := rfl
      rw [hp, decide_eq_true_eq]
      cases e : G i i with
      | none => show ¬ (0 : Int) ≤ -1; decide
      | some v =>
        have := h i (List.mem_range.mp hi) v e
        show ¬ 0 ≤ v
        omega
/-- the law's walks, and weights -/
theorem law_fits_iff {T : Tab} {m : Mp} (hT : Shp T) (h12 : T.length + 1 ≤ 12) (sym : ∀ a b, e2 T m a b = e2 T m b a) : ∃ b, G__law_fits [tabD T, .dic m] = some (.bl b) ∧ (b = true ↔ Sol (T.length + 1) (e2 T m)) := by
  obtain ⟨b, h1, h2⟩ := law_fits_eq (m := m) hT h12
  exact ⟨b, h1, h2.trans (fits_iff sym (F0_step _ _))⟩
theorem e2_nil (T : Tab) : e2 T [] = ent T := by
  funext a b
  rfl
end PW
/-! PL7: real tables. -/
namespace PW
open DL MA
theorem va_symm (T : Tab) (a b : Nat) : va T a b = va T b a := by
  unfold va
  rw [ent_symm]
theorem whole_of {T : Tab} (h : Whl T) : Whole (T.length + 1) (ent T) (va T) := ⟨ent_symm T, fun a b ha hb => by
  by_cases c : a = b
  · rw [if_pos c, c, ent_self]
  · rw [if_neg c]
    exact h.at c (by omega) (by omega)⟩
theorem real_four {T : Tab} : (∀ q, ¬ Bad T q) ↔ Four (T.length + 1) (va T) := by
  constructor
  · intro h
    have key : ∀ a b c d, a < b → b < c → c < d → d < T.length + 1 → spr T a b c d ≤ 1 := fun a b c d h1 h2 h3 h4 => by
      have := h (a, b, c, d)
      by_cases hs : 1 < spr T a b c d
      · exact absurd ⟨h1, h2, h3, by show d ≤ T.length; omega, hs⟩ this
      · omega
    have k2 : ∀ a b c d, a < b → b < c → c < d → d < T.length + 1 → va T a b + va T c d ≤ va T a c + va T b d + 1 ∧ va T a c + va T b d ≤ va T a b + va T c d + 1 ∧ va T a b + va T c d ≤ va T a d + va T b c + 1 ∧ va T a d + va T b c ≤ va T a b + va T c d + 1 ∧ va T a c + va T b d ≤ va T a d + va T b c + 1 ∧ va T a d + va T b c ≤ va T a c + va T b d + 1 := fun a b c d h1 h2 h3 h4 => by
      have := key a b c d h1 h2 h3 h4
      unfold spr s1 s2 s3 at this
      omega
    intro a b c d ha hb hc hd ab ac ad bc bd cd
    have e1 := va_symm T a b
    have e2 := va_symm T a c
    have e3 := va_symm T a d
    have e4 := va_symm T b c
    have e5 := va_symm T b d
    have e6 := va_symm T c d
    rcases Nat.lt_or_gt_of_ne ab with h1 | h1 <;> rcases Nat.lt_or_gt_of_ne ac with h2 | h2 <;> rcases Nat.lt_or_gt_of_ne ad with h3 | h3 <;> rcases Nat.lt_or_gt_of_ne bc with h4 | h4 <;> rcases Nat.lt_or_gt_of_ne bd with h5 | h5 <;> rcases Nat.lt_or_gt_of_ne cd with h6 | h6
    all_goals first
      | (exfalso; omega)
      | (have q := k2 a b c d (by omega) (by omega) (by omega) (by omega); omega)
      | (have q := k2 a b d c (by omega) (by omega) (by omega) (by omega); omega)
      | (have q := k2 a c b d (by omega) (by omega) (by omega) (by omega); omega)
      | (have q := k2 a c d b (by omega) (by omega) (by omega) (by omega); omega)
      | (have q := k2 a d b c (by omega) (by omega) (by omega) (by omega); omega)
      | (have q := k2 a d c b (by omega) (by omega) (by omega) (by omega); omega)
      | (have q := k2 b a c d (by omega) (by omega) (by omega) (by omega); omega)
      | (have q := k2 b a d c (by omega) (by omega) (by omega) (by omega); omega)
      | (have q := k2 b c a d (by omega) (by omega) (by omega) (by omega); omega)
      | (have q := k2 b c d a (by omega) (by omega) (by omega) (by omega); omega)
      | (have q := k2 b d a c (by omega) (by omega) (by omega) (by omega); omega)
      | (have q := k2 b d c a (by omega) (by omega) (by omega) (by omega); omega)
      | (have q := k2 c a b d (by omega) (by omega) (by omega) (by omega); omega)
      | (have q := k2 c a d b (by omega) (by omega) (by omega) (by omega); omega)
      | (have q := k2 c b a d (by omega) (by omega) (by omega) (by omega); omega)
      | (have q := k2 c b d a (by omega) (by omega) (by omega) (by omega); omega)
      | (have q := k2 c d a b (by omega) (by omega) (by omega) (by omega); omega)
      | (have q := k2 c d b a (by omega) (by omega) (by omega) (by omega); omega)
      | (have q := k2 d a b c (by omega) (by omega) (by omega) (by omega); omega)
      | (have q := k2 d a c b (by omega) (by omega) (by omega) (by omega); omega)
      | (have q := k2 d b a c (by omega) (by omega) (by omega) (by omega); omega)
      | (have q := k2 d b c a (by omega) (by omega) (by omega) (by omega); omega)
      | (have q := k2 d c a b (by omega) (by omega) (by omega) (by omega); omega)
      | (have q := k2 d c b a (by omega) (by omega) (by omega) (by omega); omega)
  · rintro h ⟨a, b, c, d⟩ ⟨ab, bc, cd, hd, hs⟩
    simp only at ab bc cd hd hs
    have q1 := h a b c d (by omega) (by omega) (by omega) (by omega) (by omega) (by omega) (by omega) (by omega) (by omega) (by omega)
    have q2 := h a c b d (by omega) (by omega) (by omega) (by omega) (by omega) (by omega) (by omega) (by omega) (by omega) (by omega)
    have q3 := h a b d c (by omega) (by omega) (by omega) (by omega) (by omega) (by omega) (by omega) (by omega) (by omega) (by omega)
    have q4 := h a d b c (by omega) (by omega) (by omega) (by omega) (by omega) (by omega) (by omega) (by omega) (by omega) (by omega)
    have q5 := h a c d b (by omega) (by omega) (by omega) (by omega) (by omega) (by omega) (by omega) (by omega) (by omega) (by omega)
    have q6 := h a d c b (by omega) (by omega) (by omega) (by omega) (by omega) (by omega) (by omega) (by omega) (by omega) (by omega)
    have e4 := va_symm T b c
    have e5 := va_symm T b d
    have e6 := va_symm T c d
    unfold spr s1 s2 s3 at hs
    omega
theorem real_sol {T : Tab} (h : Whl T) : (∀ q, ¬ Bad T q) ↔ Sol (T.length + 1) (ent T) := real_four.trans (four_iff (whole_of h))
/-- the scale's own table -/
theorem fdiv_bounds {x u : Int} (hu : 0 < u) : x.fdiv u * u ≤ x ∧ x < (x.fdiv u + 1) * u := by
  have h1 := Int.fmod_add_mul_fdiv x u
  obtain ⟨a, b⟩ := fmod_lt (x := x) hu
  have e1 : x.fdiv u * u = u * x.fdiv u := Int.mul_comm _ _
  have e2 : (x.fdiv u + 1) * u = u * x.fdiv u + u := by rw [Int.add_mul, Int.one_mul, e1]
  omega
theorem tabOf_whl {u : Int} {ws : List Int} (h : 1 ≤ ws.length) : Whl (tabOf u ws) := fun a b hab ha hb => by
  rw [tabOf_len] at ha hb
  exact ⟨_, tabOf_ent hab (by omega) (by omega)⟩
theorem tabOf_fit {u : Int} {ws : List Int} (hu : 0 < u) (h : 1 ≤ ws.length) : Fit ((tabOf u ws).length + 1) (ent (tabOf u ws)) u (dg ws) := by
  refine ⟨hu, fun i c v hi hc e => ?_⟩
  rw [tabOf_len] at hi hc
  by_cases hic : i = c
  · subst hic
    rw [ent_self] at e
    cases e
  · rw [tabOf_ent hic (by omega) (by omega)] at e
    cases e
    exact fdiv_bounds hu
theorem tabOf_sol {u : Int} {ws : List Int} (hu : 0 < u) (h : 1 ≤ ws.length) : Sol ((tabOf u ws).length + 1) (ent (tabOf u ws)) := ⟨u, dg ws, tabOf_fit hu h⟩
theorem same_bool_eq (b c : Bool) : G__law_same_bool [.bl b, .bl c] = some (.bl (b == c)) := by
  unfold G__law_same_bool runF m__law_same_bool
  cases b <;> cases c <;> rfl
end PW
/-! MC: heights in parts (no program in sight). -/
namespace MA
/-- the heights' first differences (negated lengths) -/
def B0 (n : Nat) (E : Fn) : Fn := fun i j => if i = j then (if i < 2 * n then some 0 else none) else if i < n ∧ n ≤ j ∧ j < 2 * n then (E i (j - n)).map fun v => v * 32 else if n ≤ i ∧ i < 2 * n ∧ j < n then (E j (i - n)).map fun v => 1 - (v + 1) * 32 else none
/-- heights that have all numbers of E, in parts of 32: h i - h (n + c) -/
def Hts (n : Nat) (E : Fn) (h : Nat → Int) : Prop := ∀ i c v, i < n → c < n → E i c = some v → v * 32 ≤ h i - h (n + c) ∧ h i - h (n + c) < (v + 1) * 32
theorem B0_all {n : Nat} {E : Fn} {h : Nat → Int} (hh : Hts n E h) : All (fun i j v => v ≤ h i - h j) (B0 n E) := fun i j v e => by
  unfold B0 at e
  split at e
  · rename_i c
    subst c
    split at e
    · cases e
      show (0 : Int) ≤ h i - h i
      omega
    · cases e
  · split at e
    · rename_i c
      rw [Option.map_eq_some_iff] at e
      obtain ⟨x, ex, rfl⟩ := e
      have := (hh i (j - n) x c.1 (by omega) ex).1
      rw [show n + (j - n) = j by omega] at this
      exact this
    · split at e
      · rename_i c
        rw [Option.map_eq_some_iff] at e
        obtain ⟨x, ex, rfl⟩ := e
        have := (hh j (i - n) x c.2.2 (by omega) ex).2
        rw [show n + (i - n) = i by omega] at this
        show 1 - (x + 1) * 32 ≤ h i - h j
        omega
      · cases e
theorem rK_all {n : Nat} {E : Fn} {h : Nat → Int} (hh : Hts n E h) (m k : Nat) : All (fun i j v => v ≤ h i - h j) (rK (B0 n E) m k) :=
  All.rK (P := fun i j v => v ≤ h i - h j) (fun i j k a b h1 h2 => by
    have h1 : a ≤ h i - h k := h1
    have h2 : b ≤ h k - h j := h2
    show a + b ≤ h i - h j
    omega) (B0_all hh) m k
/-- the diagonal is 0 or more, and 0 where there are heights -/
theorem diag_ge {n : Nat} {E : Fn} {i : Nat} (hi : i < 2 * n) (m k : Nat) : ∃ v, rK (B0 n E) m k i i = some v ∧ 0 ≤ v := by
  refine le_rK (B0 n E) m k i i 0 ?_
  unfold B0
  rw [if_pos rfl, if_pos hi]
/-- a closed end has heights: any row's maximum -/
def Good0 (n : Nat) (E : Fn) : Prop := ∀ i, i < 2 * n → rK (B0 n E) (2 * n) (2 * n) i i = some 0
theorem good_closed {n : Nat} {E : Fn} (g : Good0 n E) : ∀ m, m < 2 * n → Cl (2 * n) (rK (B0 n E) (2 * n) (2 * n)) m := closed fun i hi v e => by
  rw [g i hi] at e
  cases e
  exact Int.le_refl _
/-- heights of a function that keeps the lengths -/
theorem hts_of {n : Nat} {E : Fn} {h : Nat → Int} (hh : ∀ i j v, i < 2 * n → j < 2 * n → rK (B0 n E) (2 * n) (2 * n) i j = some v → v ≤ h i - h j) : Hts n E h := fun i c v hi hc e => by
  have h1 : B0 n E i (n + c) = some (v * 32) := by
    unfold B0
    rw [if_neg (by omega), if_pos ⟨hi, by omega, by omega⟩, show n + c - n = c by omega, e]
    rfl
  have h2 : B0 n E (n + c) i = some (1 - (v + 1) * 32) := by
    unfold B0
    rw [if_neg (by omega), if_neg (by omega), if_pos ⟨by omega, by omega, hi⟩, show n + c - n = c by omega, e]
    rfl
  obtain ⟨a, e1, a1⟩ := le_rK (B0 n E) (2 * n) (2 * n) _ _ _ h1
  obtain ⟨b, e2, b1⟩ := le_rK (B0 n E) (2 * n) (2 * n) _ _ _ h2
  have q1 := hh _ _ _ (by omega) (by omega) e1
  have q2 := hh _ _ _ (by omega) (by omega) e2
  constructor <;> omega
theorem good_iff_hts {n : Nat} {E : Fn} : Good0 n E ↔ ∃ h, Hts n E h := by
  constructor
  · intro g
    let G := rK (B0 n E) (2 * n) (2 * n)
    have mx : ∀ j, ∃ m : Int, j < 2 * n → (∃ i, i < 2 * n ∧ G i j = some m) ∧ ∀ i v, i < 2 * n → G i j = some v → v ≤ m := fun j => by
      by_cases hj : j < 2 * n
      · obtain ⟨m, h1, h2⟩ := max_of (vals (2 * n) fun i => G i j) (fun z => by
          have : (0 : Int) ∈ vals (2 * n) fun i => G i j := mem_vals.mpr ⟨j, hj, g j hj⟩
          rw [z] at this
          cases this)
        obtain ⟨i, hi, e⟩ := mem_vals.mp h1
        exact ⟨m, fun _ => ⟨⟨i, hi, e⟩, fun i v hi e => h2 v (mem_vals.mpr ⟨i, hi, e⟩)⟩⟩
      · exact ⟨0, fun h => absurd h hj⟩
    refine ⟨fun j => - Classical.choose (mx j), hts_of fun i j v hi hj e => ?_⟩
    obtain ⟨⟨k, hk, e1⟩, _⟩ := Classical.choose_spec (mx i) hi
    have h2 := (Classical.choose_spec (mx j) hj).2
    obtain ⟨c, e2, hc⟩ := good_closed g i hi k j _ v hk hj e1 e
    have := h2 k c hk e2
    show v ≤ -Classical.choose (mx i) - -Classical.choose (mx j)
    omega
  · rintro ⟨h, hh⟩ i hi
    obtain ⟨v, e, hv⟩ := diag_ge (E := E) hi (2 * n) (2 * n)
    have := rK_all hh (2 * n) (2 * n) i i v e
    have : v ≤ h i - h i := this
    rw [e]
    congr 1
    omega
/-! ### heights and weights -/
theorem fit_of_hts {n : Nat} {E : Fn} {h : Nat → Int} (sym : ∀ a b, E a b = E b a) (hh : Hts n E h) : Fit n E 64 fun i => h i - h (n + i) := by
  refine ⟨by decide, fun i c v hi hc e => ?_⟩
  have h1 := hh i c v hi hc e
  have h2 := hh c i v hc hi (by rw [sym]; exact e)
  show v * 64 ≤ h i - h (n + i) + (h c - h (n + c)) ∧ h i - h (n + i) + (h c - h (n + c)) < (v + 1) * 64
  omega
/-- rounding by ranks keeps all floors -/
def rnk (N : Nat) (f : Nat → Int) (v : Nat) : Nat := ((List.range N).filter fun u => decide (f u < f v)).length
theorem rnk_lt (N : Nat) (f : Nat → Int) {v : Nat} (hv : v < N) : rnk N f v < N := by
  unfold rnk
  have h1 : ((List.range N).filter fun u => decide (f u < f v)).length ≤ (List.range N).length := List.length_filter_le _ _
  rw [List.length_range] at h1
  by_cases e : ((List.range N).filter fun u => decide (f u < f v)).length = N
  · have h2 : ((List.range N).filter fun u => decide (f u < f v)).length = (List.range N).length := by rw [e, List.length_range]
    rw [List.length_filter_eq_length_iff] at h2
    have := h2 v (List.mem_range.mpr hv)
    rw [decide_eq_true_eq] at this
    omega
  · omega
theorem filter_len_le {α : Type} {l : List α} {p q : α → Bool} (h : ∀ x, x ∈ l → p x = true → q x = true) : (l.filter p).length ≤ (l.filter q).length := by
  induction l with
  | nil => exact Nat.le_refl _
  | cons a l ih =>
    have ih := ih fun x hx => h x (List.mem_cons_of_mem _ hx)
    have ha := h a List.mem_cons_self
    cases hp : p a with
    | true =>
      rw [List.filter_cons_of_pos hp, List.filter_cons_of_pos (ha hp), List.length_cons, List.length_cons]
      omega
    | false =>
      rw [List.filter_cons_of_neg (by rw [hp]; decide)]
      cases hq : q a with
      | true =>
        rw [List.filter_cons_of_pos hq, List.length_cons]
        omega
      | false =>
        rw [List.filter_cons_of_neg (by rw [hq]; decide)]
        exact ih
theorem filter_len_lt {α : Type} {l : List α} {p q : α → Bool} (h : ∀ x, x ∈ l → p x = true → q x = true) {y : α} (hy : y ∈ l) (hp : p y = false) (hq : q y = true) : (l.filter p).length < (l.filter q).length := by
  induction l with
  | nil => cases hy
  | cons a l ih =>
    rcases List.mem_cons.mp hy with e | e
    · subst e
      have := filter_len_le (l := l) (p := p) (q := q) fun x hx => h x (List.mem_cons_of_mem _ hx)
      rw [List.filter_cons_of_neg (by rw [hp]; decide), List.filter_cons_of_pos hq, List.length_cons]
      omega
    · have ih := ih (fun x hx => h x (List.mem_cons_of_mem _ hx)) e
      have ha := h a List.mem_cons_self
      cases hpa : p a with
      | true =>
        rw [List.filter_cons_of_pos hpa, List.filter_cons_of_pos (ha hpa), List.length_cons, List.length_cons]
        omega
      | false =>
        rw [List.filter_cons_of_neg (by rw [hpa]; decide)]
        cases hqa : q a with
        | true =>
          rw [List.filter_cons_of_pos hqa, List.length_cons]
          omega
        | false =>
          rw [List.filter_cons_of_neg (by rw [hqa]; decide)]
          exact ih
theorem rnk_mono (N : Nat) (f : Nat → Int) {u v : Nat} (h : f u ≤ f v) : rnk N f u ≤ rnk N f v := filter_len_le fun x _ hx => by
  rw [decide_eq_true_eq] at hx ⊢
  omega
theorem rnk_strict (N : Nat) (f : Nat → Int) {u v : Nat} (hu : u < N) (h : f u < f v) : rnk N f u < rnk N f v := filter_len_lt (y := u) (fun x _ hx => by
  rw [decide_eq_true_eq] at hx ⊢
  omega) (List.mem_range.mpr hu) (decide_eq_false (by omega)) (decide_eq_true h)
/-- any real heights X over a unit U: whole heights over 32 with the same floors of all differences -/
theorem round32 {N : Nat} (hN : N ≤ 32) {U : Int} (hU : 0 < U) (X : Nat → Int) : ∃ h : Nat → Int, ∀ u v, u < N → v < N → ∀ k : Int, (k * U ≤ X u - X v ↔ k * 32 ≤ h u - h v) := by
  refine ⟨fun v => 32 * (X v / U) + (rnk N (fun u => X u % U) v : Int), fun u v hu hv k => ?_⟩
  have e1 := Int.mul_ediv_add_emod (X u) U
  have e2 := Int.mul_ediv_add_emod (X v) U
  have a1 := Int.emod_nonneg (X u) (show U ≠ 0 by omega)
  have a2 := Int.emod_nonneg (X v) (show U ≠ 0 by omega)
  have b1 := Int.emod_lt_of_pos (X u) hU
  have b2 := Int.emod_lt_of_pos (X v) hU
  have r1 := rnk_lt N (fun u => X u % U) hu
  have r2 := rnk_lt N (fun u => X u % U) hv
  show k * U ≤ X u - X v ↔ k * 32 ≤ 32 * (X u / U) + (rnk N (fun u => X u % U) u : Int) - (32 * (X v / U) + (rnk N (fun u => X u % U) v : Int))
  have key : ∀ z : Int, U * z = z * U := fun z => Int.mul_comm _ _
  rw [key] at e1 e2
  generalize X u / U = qu at *
  generalize X v / U = qv at *
  -- the difference of the whole parts, t
  have hd : X u - X v = (qu - qv) * U + (X u % U - X v % U) := by rw [Int.sub_mul]; omega
  rw [hd]
  by_cases c1 : k < qu - qv
  · have : (k + 1) * U ≤ (qu - qv) * U := Int.mul_le_mul_of_nonneg_right (by omega) (by omega)
    rw [Int.add_mul, Int.one_mul] at this
    constructor
    · intro _
      omega
    · intro _
      omega
  · by_cases c2 : k = qu - qv
    · rw [← c2]
      constructor
      · intro h
        have : X v % U ≤ X u % U := by omega
        have := rnk_mono N (fun u => X u % U) this
        omega
      · intro h
        by_cases c : X u % U < X v % U
        · have := rnk_strict N (fun u => X u % U) hu c
          omega
        · omega
    · have : (qu - qv + 1) * U ≤ k * U := Int.mul_le_mul_of_nonneg_right (by omega) (by omega)
      rw [Int.add_mul, Int.one_mul] at this
      constructor
      · intro h
        omega
      · intro h
        omega
theorem hts_of_fit {n : Nat} {E : Fn} (hn : 2 * n ≤ 32) {U : Int} {w : Nat → Int} (f : Fit n E U w) : ∃ h, Hts n E h ∧ ∀ i c, i < n → c < n → ∀ k : Int, (k * U ≤ w i + w c ↔ k * 32 ≤ h i - h (n + c)) := by
  obtain ⟨hU, hf⟩ := f
  obtain ⟨h, hh⟩ := round32 hn hU fun v => if v < n then w v else - w (v - n)
  have key : ∀ i c, i < n → c < n → ∀ k : Int, (k * U ≤ w i + w c ↔ k * 32 ≤ h i - h (n + c)) := fun i c hi hc k => by
    have := hh i (n + c) (by omega) (by omega) k
    rw [if_pos hi, if_neg (by omega), show n + c - n = c by omega] at this
    rw [← this]
    constructor <;> intro _ <;> omega
  refine ⟨h, fun i c v hi hc e => ?_, key⟩
  have h1 := hf i c v hi hc e
  refine ⟨(key i c hi hc v).mp h1.1, ?_⟩
  by_cases q : (v + 1) * 32 ≤ h i - h (n + c)
  · have := (key i c hi hc (v + 1)).mpr q
    omega
  · omega
theorem good_iff_sol {n : Nat} {E : Fn} (hn : 2 * n ≤ 32) (sym : ∀ a b, E a b = E b a) : Good0 n E ↔ Sol n E := by
  rw [good_iff_hts]
  constructor
  · rintro ⟨h, hh⟩
    exact ⟨64, _, fit_of_hts sym hh⟩
  · rintro ⟨U, w, f⟩
    obtain ⟨h, hh, _⟩ := hts_of_fit hn f
    exact ⟨h, hh⟩
end MA
namespace MA
theorem hts_min {n : Nat} {E : Fn} (g : Good0 n E) {h : Nat → Int} (hm : ∀ j, j < 2 * n → (∃ i, i < 2 * n ∧ rK (B0 n E) (2 * n) (2 * n) i j = some (-h j)) ∧ ∀ i v, i < 2 * n → rK (B0 n E) (2 * n) (2 * n) i j = some v → h j ≤ -v) : Hts n E h := hts_of fun i j v hi hj e => by
  obtain ⟨⟨k, hk, e1⟩, _⟩ := hm i hi
  have h2 := (hm j hj).2
  obtain ⟨c, e2, hc⟩ := good_closed g i hi k j _ v hk hj e1 e
  have := h2 k c hk e2
  omega
end MA
/-! PL8: bounds. -/
namespace PW
open DL MA
/-- the dict holds the negated function -/
def RelN (m : Mp) (F : Fn) : Prop := ∀ i j : Nat, dlook m ((i : Int), (j : Int)) = (F i j).map fun v => -v
theorem RelN.put {m : Mp} {F : Fn} (h : RelN m F) (i j : Nat) (v : Int) : RelN (dput m ((i : Int), (j : Int)) (-v)) (put F i j v) := fun a b => by
  rw [dlook_dput, h a b]
  unfold MA.put
  by_cases c : a = i ∧ b = j
  · obtain ⟨rfl, rfl⟩ := c
    rw [if_pos rfl, if_pos ⟨rfl, rfl⟩]
    rfl
  · rw [if_neg c, if_neg]
    intro z
    rw [Prod.mk.injEq] at z
    exact c ⟨by omega, by omega⟩
theorem bounds_b0 {far : Mp} {F : Fn} {i j k : Nat} {s0 s1 s2 s7 s8 : Slot} (h : RelN far F) (hl : far.length ≤ 90000) :
    ∃ far' w, ex (phi [G_entry_of]) cs b_bounds_0 [s0, s1, s2, .dic far, .val (.int i), .val (.int k), .val (.int j), s7, s8] = some (.nx [s0, s1, s2, .dic far', .val (.int i), .val (.int k), .val (.int j), s7, w]) ∧ RelN far' (relax F k i j) ∧ far'.length ≤ far.length + 1 := by
  have hl' : far.length ≤ 100000 := by omega
  unfold b_bounds_0
  have e1 := h i k
  have e2 := h k j
  have e3 := h i j
  cases h1 : F i k with
  | none =>
    refine ⟨far, s8, by simp [e1, h1, lim], ?_, by omega⟩
    rw [relax_none (.inl h1)]
    exact h
  | some a =>
    cases h2 : F k j with
    | none =>
      refine ⟨far, s8, by simp [e1, e2, h1, h2, lim], ?_, by omega⟩
      rw [relax_none (.inr h2)]
      exact h
    | some b =>
      cases h3 : F i j with
      | none =>
        refine ⟨dput far ((i : Int), (j : Int)) (-a + -b), .val (.int (-a + -b)), ?_, ?_, dput_len _ _ _⟩
        · have hlt : -a + -b < -a + -b + 1 := by omega
          simp [e1, e2, e3, h1, h2, h3, lim, setDS, hl', hlt]
        · have : relax F k i j = MA.put F i j (a + b) := by unfold relax comb; rw [h1, h2, h3]
          rw [this]
          have q := h.put i j (a + b)
          rw [show -(a + b) = -a + -b by omega] at q
          exact q
      | some v =>
        by_cases hv : -a + -b < -v
        · refine ⟨dput far ((i : Int), (j : Int)) (-a + -b), .val (.int (-a + -b)), ?_, ?_, dput_len _ _ _⟩
          · simp [e1, e2, e3, h1, h2, h3, lim, setDS, hl', hv]
          · have : relax F k i j = MA.put F i j (max (a + b) v) := by unfold relax comb; rw [h1, h2, h3]
            rw [this, Int.max_eq_left (by omega)]
            have q := h.put i j (a + b)
            rw [show -(a + b) = -a + -b by omega] at q
            exact q
        · refine ⟨far, .val (.int (-a + -b)), ?_, ?_, by omega⟩
          · simp [e1, e2, e3, h1, h2, h3, lim, setDS, hl', hv]
          · have : relax F k i j = F := by
              funext x y
              rw [relax_at]
              split
              · rename_i q
                obtain ⟨rfl, rfl⟩ := q
                rw [h1, h2, h3]
                show some (max (a + b) v) = some v
                rw [Int.max_eq_right (by omega)]
              · rfl
            rw [this]
            exact h
abbrev nodesD (N : Nat) : Slot := .val (.lst (rngD 0 (N : Int)))
theorem bounds_b1 {N : Nat} {far : Mp} {F : Fn} {i k : Nat} {s0 s1 s6 s7 s8 : Slot} (hN : N ≤ 24) (h : RelN far F) (hl : far.length ≤ 80000) :
    ∃ far' x w, ex (phi [G_entry_of]) cs b_bounds_1 [s0, s1, nodesD N, .dic far, .val (.int i), .val (.int k), s6, s7, s8] = some (.nx [s0, s1, nodesD N, .dic far', .val (.int i), .val (.int k), x, s7, w]) ∧ RelN far' (rJ F k i N) ∧ far'.length ≤ far.length + 24 := by
  obtain ⟨st', h1, far', x, w, e, h2, h3⟩ := loop_rng (Φ := phi [G_entry_of]) (cs := cs) (body := b_bounds_0) (j := 6) (a := 0) (b := N) (st := [s0, s1, nodesD N, .dic far, .val (.int i), .val (.int k), s6, s7, s8]) (Nat.zero_le _)
    (fun J st => ∃ far' x w, st = [s0, s1, nodesD N, .dic far', .val (.int i), .val (.int k), x, s7, w] ∧ RelN far' (rJ F k i J) ∧ far'.length ≤ far.length + J) ⟨far, s6, s8, rfl, h, by omega⟩ (fun J st ⟨far', x, w, e, _⟩ => by rw [e]; exact (by decide : 6 < 9)) fun J _ hJ st ⟨far', x, w, e, g1, g2⟩ => by
      subst e
      obtain ⟨f2, w2, a1, a2, a3⟩ := bounds_b0 (i := i) (j := J) (k := k) (s0 := s0) (s1 := s1) (s2 := nodesD N) (s7 := s7) (s8 := w) g1 (by omega)
      exact ⟨_, a1, f2, _, w2, rfl, a2, by omega⟩
  subst e
  refine ⟨far', x, w, ?_, h2, by omega⟩
  rw [show ((0 : Nat) : Int) = 0 from rfl] at h1
  unfold b_bounds_1
  simp [h1]
theorem bounds_b2 {N : Nat} {far : Mp} {F : Fn} {k : Nat} {s0 s1 s4 s6 s7 s8 : Slot} (hN : N ≤ 24) (h : RelN far F) (hl : far.length ≤ 70000) :
    ∃ far' y x w, ex (phi [G_entry_of]) cs b_bounds_2 [s0, s1, nodesD N, .dic far, s4, .val (.int k), s6, s7, s8] = some (.nx [s0, s1, nodesD N, .dic far', y, .val (.int k), x, s7, w]) ∧ RelN far' (rI F k N N) ∧ far'.length ≤ far.length + 576 := by
  obtain ⟨st', h1, far', y, x, w, e, h2, h3⟩ := loop_rng (Φ := phi [G_entry_of]) (cs := cs) (body := b_bounds_1) (j := 4) (a := 0) (b := N) (st := [s0, s1, nodesD N, .dic far, s4, .val (.int k), s6, s7, s8]) (Nat.zero_le _)
    (fun I st => ∃ far' y x w, st = [s0, s1, nodesD N, .dic far', y, .val (.int k), x, s7, w] ∧ RelN far' (rI F k N I) ∧ far'.length ≤ far.length + 24 * I) ⟨far, s4, s6, s8, rfl, h, by omega⟩ (fun I st ⟨far', y, x, w, e, _⟩ => by rw [e]; exact (by decide : 4 < 9)) fun I _ hI st ⟨far', y, x, w, e, g1, g2⟩ => by
      subst e
      obtain ⟨f2, x2, w2, a1, a2, a3⟩ := bounds_b1 (i := I) (k := k) (s0 := s0) (s1 := s1) (s6 := x) (s7 := s7) (s8 := w) hN g1 (by omega)
      exact ⟨_, a1, f2, _, x2, w2, rfl, a2, by omega⟩
  subst e
  refine ⟨far', y, x, w, ?_, h2, by omega⟩
  rw [show ((0 : Nat) : Int) = 0 from rfl] at h1
  unfold b_bounds_2
  simp [h1]
/-! ### the first lengths -/
/-- the diagonal below I -/
def Dg (I : Nat) : Fn := fun i j => if i = j ∧ i < I then some 0 else none
/-- and the known entries (a, b) that come ahead of (I, J) -/
def Bp (n : Nat) (E : Fn) (I J : Nat) : Fn := fun i j => if i = j then (if i < 2 * n then some 0 else none) else
  if i < n ∧ n ≤ j ∧ j < 2 * n ∧ (i < I ∨ (i = I ∧ j - n < J)) then (E i (j - n)).map fun v => v * 32 else
  if n ≤ i ∧ i < 2 * n ∧ j < n ∧ (j < I ∨ (j = I ∧ i - n < J)) then (E j (i - n)).map fun v => 1 - (v + 1) * 32 else none
theorem Bp_0 {n : Nat} {E : Fn} : Bp n E 0 0 = Dg (2 * n) := by
  funext i j
  unfold Bp Dg
  by_cases c : i = j
  · rw [if_pos c]
    by_cases d : i < 2 * n
    · rw [if_pos d, if_pos ⟨c, d⟩]
    · rw [if_neg d, if_neg (fun z => d z.2)]
  · rw [if_neg c, if_neg (by omega), if_neg (by omega), if_neg (fun z => c z.1)]
theorem Bp_row {n : Nat} {E : Fn} {I : Nat} : Bp n E I n = Bp n E (I + 1) 0 := by
  funext i j
  unfold Bp
  by_cases c : i = j
  · rw [if_pos c, if_pos c]
  · rw [if_neg c, if_neg c]
    by_cases d : i < n ∧ n ≤ j ∧ j < 2 * n ∧ (i < I ∨ (i = I ∧ j - n < n))
    · rw [if_pos d, if_pos (by omega)]
    · rw [if_neg d]
      by_cases d2 : i < n ∧ n ≤ j ∧ j < 2 * n ∧ (i < I + 1 ∨ (i = I + 1 ∧ j - n < 0))
      · exact absurd ⟨d2.1, d2.2.1, d2.2.2.1, by omega⟩ d
      · rw [if_neg d2]
        by_cases d3 : n ≤ i ∧ i < 2 * n ∧ j < n ∧ (j < I ∨ (j = I ∧ i - n < n))
        · rw [if_pos d3, if_pos (by omega)]
        · rw [if_neg d3]
          by_cases d4 : n ≤ i ∧ i < 2 * n ∧ j < n ∧ (j < I + 1 ∨ (j = I + 1 ∧ i - n < 0))
          · exact absurd ⟨d4.1, d4.2.1, d4.2.2.1, by omega⟩ d3
          · rw [if_neg d4]
theorem Bp_all {n : Nat} {E : Fn} : Bp n E n 0 = B0 n E := by
  funext i j
  unfold Bp B0
  by_cases c : i = j
  · rw [if_pos c, if_pos c]
  · rw [if_neg c, if_neg c]
    by_cases d : i < n ∧ n ≤ j ∧ j < 2 * n
    · rw [if_pos d, if_pos (by omega)]
    · rw [if_neg d, if_neg (by omega)]
      by_cases d3 : n ≤ i ∧ i < 2 * n ∧ j < n
      · rw [if_pos d3, if_pos (by omega)]
      · rw [if_neg d3, if_neg (by omega)]
theorem Bp_next {n : Nat} {E : Fn} {a b : Nat} (ha : a < n) (hb : b < n) : Bp n E a (b + 1) = match E a b with
    | some v => MA.put (MA.put (Bp n E a b) a (n + b) (v * 32)) (n + b) a (1 - (v + 1) * 32)
    | none => Bp n E a b := by
  funext i j
  by_cases c1 : i = a ∧ j = n + b
  · obtain ⟨rfl, rfl⟩ := c1
    have e1 : Bp n E i (b + 1) i (n + b) = (E i b).map fun v => v * 32 := by
      unfold Bp
      rw [if_neg (by omega), if_pos (by omega), show n + b - n = b by omega]
    have e2 : Bp n E i b i (n + b) = none := by
      unfold Bp
      rw [if_neg (by omega), if_neg (by omega), if_neg (by omega)]
    rw [e1]
    cases h : E i b with
    | none => exact e2.symm
    | some v =>
      show _ = MA.put (MA.put _ _ _ _) _ _ _ i (n + b)
      unfold MA.put
      rw [if_neg (by omega), if_pos ⟨rfl, rfl⟩]
      rfl
  · by_cases c2 : i = n + b ∧ j = a
    · obtain ⟨rfl, rfl⟩ := c2
      have e1 : Bp n E j (b + 1) (n + b) j = (E j b).map fun v => 1 - (v + 1) * 32 := by
        unfold Bp
        rw [if_neg (by omega), if_neg (by omega), if_pos (by omega), show n + b - n = b by omega]
      have e2 : Bp n E j b (n + b) j = none := by
        unfold Bp
        rw [if_neg (by omega), if_neg (by omega), if_neg (by omega)]
      rw [e1]
      cases h : E j b with
      | none => exact e2.symm
      | some v =>
        show _ = MA.put (MA.put _ _ _ _) _ _ _ (n + b) j
        unfold MA.put
        rw [if_pos ⟨rfl, rfl⟩]
        rfl
    · have e1 : Bp n E a (b + 1) i j = Bp n E a b i j := by
        unfold Bp
        by_cases c : i = j
        · rw [if_pos c, if_pos c]
        · rw [if_neg c, if_neg c]
          by_cases d : i < n ∧ n ≤ j ∧ j < 2 * n ∧ (i < a ∨ (i = a ∧ j - n < b))
          · rw [if_pos d, if_pos (by omega)]
          · rw [if_neg d]
            by_cases d2 : i < n ∧ n ≤ j ∧ j < 2 * n ∧ (i < a ∨ (i = a ∧ j - n < b + 1))
            · exact absurd ⟨by omega, by omega⟩ c1
            · rw [if_neg d2]
              by_cases d3 : n ≤ i ∧ i < 2 * n ∧ j < n ∧ (j < a ∨ (j = a ∧ i - n < b))
              · rw [if_pos d3, if_pos (by omega)]
              · rw [if_neg d3]
                by_cases d4 : n ≤ i ∧ i < 2 * n ∧ j < n ∧ (j < a ∨ (j = a ∧ i - n < b + 1))
                · exact absurd ⟨by omega, by omega⟩ c2
                · rw [if_neg d4]
      rw [e1]
      cases h : E a b with
      | none => rfl
      | some v =>
        show _ = MA.put (MA.put _ _ _ _) _ _ _ i j
        unfold MA.put
        rw [if_neg c2, if_neg c1]
theorem bounds_b3 {T : Tab} {a b n : Nat} {far : Mp} {s2 s5 s7 s8 : Slot} (hT : Shp T) (hn : n = T.length + 1) (ha : a < n) (hb : b < n) (h : RelN far (Bp n (ent T) a b)) (hl : far.length ≤ 90000) :
    ∃ far' w, ex (phi [G_entry_of]) cs b_bounds_3 [.val (tabD T), .val (.int n), s2, .dic far, .val (.int a), s5, .val (.int b), s7, s8] = some (.nx [.val (tabD T), .val (.int n), s2, .dic far', .val (.int a), s5, .val (.int b), w, s8]) ∧ RelN far' (Bp n (ent T) a (b + 1)) ∧ far'.length ≤ far.length + 2 := by
  have hl' : far.length ≤ 100000 := by omega
  have m32 : mid 32 = true := by decide
  have c32 : cs 0 = 32 := rfl
  unfold b_bounds_3
  by_cases hab : a = b
  · subst hab
    refine ⟨far, .val .non, by simp [isNonD], ?_, by omega⟩
    rw [Bp_next ha hb, ent_self]
    exact h
  · have hab' : ¬ (a : Int) = b := by omega
    have he := entry_of_eq hT hab (by omega) (by omega)
    cases hE : ent T a b with
    | none =>
      rw [hE] at he
      refine ⟨far, .val .non, by simp [hab', he, isNonD, lim], ?_, by omega⟩
      rw [Bp_next ha hb, hE]
      exact h
    | some v =>
      rw [hE] at he
      have q1 := h.put a (n + b) (v * 32)
      have q2 := q1.put (n + b) a (1 - (v + 1) * 32)
      rw [show -(v * 32) = -v * 32 by omega, show ((n + b : Nat) : Int) = (n : Int) + b by omega] at q2
      rw [show -(1 - (v + 1) * 32) = (v + 1) * 32 - 1 by omega] at q2
      have l1 := dput_len far ((a : Int), (n : Int) + b) (-v * 32)
      have l2 := dput_len (dput far ((a : Int), (n : Int) + b) (-v * 32)) ((n : Int) + b, (a : Int)) ((v + 1) * 32 - 1)
      have l1' : (dput far ((a : Int), (n : Int) + b) (-v * 32)).length ≤ 100000 := by omega
      refine ⟨dput (dput far ((a : Int), (n : Int) + b) (-v * 32)) ((n : Int) + b, (a : Int)) ((v + 1) * 32 - 1), .val (.int v), ?_, ?_, by omega⟩
      · skip
        simp [hab', he, isNonD, lim, setDS, hl', l1', m32, c32]
      · rw [Bp_next ha hb, hE]
        exact q2
theorem bounds_b4 {T : Tab} {a n : Nat} {far : Mp} {s2 s5 s6 s7 s8 : Slot} (hT : Shp T) (hn : n = T.length + 1) (h12 : n ≤ 12) (ha : a < n) (h : RelN far (Bp n (ent T) a 0)) (hl : far.length ≤ 80000) :
    ∃ far' x w, ex (phi [G_entry_of]) cs b_bounds_4 [.val (tabD T), .val (.int n), s2, .dic far, .val (.int a), s5, s6, s7, s8] = some (.nx [.val (tabD T), .val (.int n), s2, .dic far', .val (.int a), s5, x, w, s8]) ∧ RelN far' (Bp n (ent T) (a + 1) 0) ∧ far'.length ≤ far.length + 24 := by
  obtain ⟨st', h1, far', x, w, e, g1, g2⟩ := loop_rng (Φ := phi [G_entry_of]) (cs := cs) (body := b_bounds_3) (j := 6) (a := 0) (b := n) (st := [.val (tabD T), .val (.int n), s2, .dic far, .val (.int a), s5, s6, s7, s8]) (Nat.zero_le _)
    (fun J st => ∃ far' x w, st = [.val (tabD T), .val (.int n), s2, .dic far', .val (.int a), s5, x, w, s8] ∧ RelN far' (Bp n (ent T) a J) ∧ far'.length ≤ far.length + 2 * J) ⟨far, s6, s7, rfl, h, by omega⟩ (fun J st ⟨far', x, w, e, _⟩ => by rw [e]; exact (by decide : 6 < 9)) fun J _ hJ st ⟨far', x, w, e, g1, g2⟩ => by
      subst e
      obtain ⟨f2, w2, a1, a2, a3⟩ := bounds_b3 (s2 := s2) (s5 := s5) (s7 := w) (s8 := s8) hT hn ha hJ g1 (by omega)
      exact ⟨_, a1, f2, _, w2, rfl, a2, by omega⟩
  subst e
  refine ⟨far', x, w, ?_, by rw [← Bp_row]; exact g1, by omega⟩
  have r2 : r62 (n : Int) = true := r62_of (by omega) (by omega)
  rw [show ((0 : Nat) : Int) = 0 from rfl] at h1
  unfold b_bounds_4
  simp [r2, h1]
theorem blsD_map : ∀ bs : List Bool, blsD (bs.map D.bl) = some bs
  | [] => rfl
  | b :: bs => by
    have := blsD_map bs
    show (blsD (bs.map D.bl)).map (b :: ·) = _
    rw [this]
    rfl
theorem allD_map (bs : List Bool) : allD [.lst (bs.map D.bl)] = some (.bl (bs.all id)) := by
  show (blsD (bs.map D.bl)).map (fun bs => D.bl (bs.all id)) = _
  rw [blsD_map]
  rfl
abbrev GB (T : Tab) : Fn := rK (B0 (T.length + 1) (ent T)) (2 * (T.length + 1)) (2 * (T.length + 1))
theorem bounds_eq {T : Tab} (hT : Shp T) (h12 : T.length + 1 ≤ 12) :
    (Good0 (T.length + 1) (ent T) ∧ ∃ m, G_bounds [tabD T] = some (.dic m) ∧ RelN m (GB T)) ∨ (¬ Good0 (T.length + 1) (ent T) ∧ G_bounds [tabD T] = some .non) := by
  obtain ⟨n, hn⟩ : ∃ n, n = T.length + 1 := ⟨_, rfl⟩
  obtain ⟨N, hN⟩ : ∃ N, N = 2 * n := ⟨_, rfl⟩
  have hn' : (T.length : Int) + 1 = (n : Int) := by omega
  have hN' : 2 * (n : Int) = (N : Int) := by omega
  have m2 : mid 2 = true := by decide
  have r2 : r62 (n : Int) = true := r62_of (by omega) (by omega)
  have hlr : lrngD (.int (N : Int)) = some (.lst (rngD 0 (N : Int))) := by
    show (if decide (0 ≤ (N : Int)) && decide ((N : Int) ≤ 100000) then some (D.lst (rngD 0 (N : Int))) else none) = _
    rw [decide_eq_true (by omega), decide_eq_true (by omega)]
    rfl
  -- the diagonal
  obtain ⟨st0, h0, f0, x0, e0, g0, g0'⟩ := loop_rng (Φ := phi [G_entry_of]) (cs := cs) (body := b_bounds_5) (j := 4) (a := 0) (b := N) (st := [.val (tabD T), .val (.int n), nodesD N, .dic [], .und, .und, .und, .und, .und]) (Nat.zero_le _)
    (fun I st => ∃ far' x, st = [.val (tabD T), .val (.int n), nodesD N, .dic far', x, .und, .und, .und, .und] ∧ RelN far' (Dg I) ∧ far'.length ≤ I) ⟨[], .und, rfl, fun i j => by unfold Dg; rw [if_neg (by omega)]; rfl, Nat.le_refl _⟩ (fun I st ⟨f, x, e, _⟩ => by rw [e]; exact (by decide : 4 < 9)) fun I _ hI st ⟨f, x, e, g1, g2⟩ => by
      subst e
      have hl : f.length ≤ 100000 := by omega
      refine ⟨_, ?_, dput f ((I : Int), (I : Int)) 0, .val (.int I), rfl, fun i j => ?_, by have := dput_len f ((I : Int), (I : Int)) 0; omega⟩
      · unfold b_bounds_5
        simp [setDS, lim, hl]
      · have := g1.put I I 0 i j
        rw [show (-(0 : Int)) = 0 from rfl] at this
        rw [this]
        unfold MA.put Dg
        by_cases c : i = I ∧ j = I
        · obtain ⟨rfl, rfl⟩ := c
          rw [if_pos ⟨rfl, rfl⟩, if_pos ⟨rfl, by omega⟩]
        · rw [if_neg c]
          by_cases d : i = j ∧ i < I
          · rw [if_pos d, if_pos ⟨d.1, by omega⟩]
          · rw [if_neg d, if_neg (by omega)]
  subst e0
  rw [hN, ← Bp_0 (E := ent T)] at g0
  -- the known entries
  obtain ⟨st1, h1, f1, x1, y1, w1, e1, g1, g1'⟩ := loop_rng (Φ := phi [G_entry_of]) (cs := cs) (body := b_bounds_4) (j := 4) (a := 0) (b := n) (st := [.val (tabD T), .val (.int n), nodesD N, .dic f0, x0, .und, .und, .und, .und]) (Nat.zero_le _)
    (fun I st => ∃ far' x y w, st = [.val (tabD T), .val (.int n), nodesD N, .dic far', x, .und, y, w, .und] ∧ RelN far' (Bp n (ent T) I 0) ∧ far'.length ≤ 24 + 24 * I) ⟨f0, _, _, _, rfl, g0, by omega⟩ (fun I st ⟨f, x, y, w, e, _⟩ => by rw [e]; exact (by decide : 4 < 9)) fun I _ hI st ⟨f, x, y, w, e, g1, g2⟩ => by
      subst e
      obtain ⟨f2, x2, w2, a1, a2, a3⟩ := bounds_b4 (s2 := nodesD N) (s5 := .und) (s6 := y) (s7 := w) (s8 := .und) hT hn (by omega) hI g1 (by omega)
      exact ⟨_, a1, f2, _, x2, w2, rfl, a2, by omega⟩
  subst e1
  rw [Bp_all] at g1
  -- the closure
  obtain ⟨st2, h2, f2, x2, k2, y2, w2, v2, e2', g2, g2'⟩ := loop_rng (Φ := phi [G_entry_of]) (cs := cs) (body := b_bounds_2) (j := 5) (a := 0) (b := N) (st := [.val (tabD T), .val (.int n), nodesD N, .dic f1, x1, .und, y1, w1, .und]) (Nat.zero_le _)
    (fun k st => ∃ far' x k' y w v, st = [.val (tabD T), .val (.int n), nodesD N, .dic far', x, k', y, w, v] ∧ RelN far' (rK (B0 n (ent T)) N k) ∧ far'.length ≤ 1000 + 576 * k) ⟨f1, _, _, _, _, _, rfl, g1, by omega⟩ (fun k st ⟨f, x, k', y, w, v, e, _⟩ => by rw [e]; exact (by decide : 5 < 9)) fun k _ hk st ⟨f, x, k', y, w, v, e, g1, g2⟩ => by
      subst e
      obtain ⟨f2, y2, x2, w2, a1, a2, a3⟩ := bounds_b2 (N := N) (k := k) (s0 := .val (tabD T)) (s1 := .val (.int n)) (s4 := x) (s6 := y) (s7 := w) (s8 := v) (by omega) g1 (by omega)
      exact ⟨_, a1, f2, _, _, x2, _, w2, rfl, a2, by omega⟩
  subst e2'
  rw [show ((0 : Nat) : Int) = 0 from rfl] at h0 h1 h2
  let p : Nat → Bool := fun i => decide (rK (B0 n (ent T)) N N i i = some 0)
  have hdg : ∀ i, i < N → ∃ v, rK (B0 n (ent T)) N N i i = some v ∧ 0 ≤ v := fun i hi => diag_ge (by omega) N N
  have c1 : ∀ (ρ : Env), ρ[2]? = some (some (.lst (rngD 0 (N : Int)))) → ρ[3]? = some (some (.dic f2)) → 9 ≤ ρ.length → ev (phi [G_entry_of]) cs (.comp [4] [4] false (.var 2) (.bl true) (.cmp .eq (.dget (.var 3) (.tup (.cons (.var 4) (.cons (.var 4) .nil)))) (.int 0))) ρ = some (.lst (((List.range N).map p).map D.bl)) := by
    intro ρ h3 h4 hlen2
    rw [List.map_map]
    refine comp_map (g := fun k : Nat => D.int (k : Int)) (xs := List.range N) (by simp [h3, rngD_nat0]) (by rw [List.length_range]; omega) fun k hk => ?_
    rw [List.mem_range] at hk
    obtain ⟨v, hv, hv0⟩ := hdg k hk
    have hg := g2 k k
    rw [hv] at hg
    have hp : p k = decide (v = 0) := by
      show decide (rK (B0 n (ent T)) N N k k = some 0) = _
      rw [hv]
      by_cases c : v = 0
      · rw [c]
        rfl
      · rw [decide_eq_false c, decide_eq_false (fun z => c (Option.some.inj z))]
    show _ = some (D.bl (p k))
    rw [hp]
    have hneg : decide (-v = 0) = decide (v = 0) := by
      by_cases c : v = 0
      · rw [decide_eq_true c, decide_eq_true (by omega)]
      · rw [decide_eq_false c, decide_eq_false (by omega)]
    simp only [ev_cmp, ev_dget, ev_tup, ev_cons, ev_nil, ev_var, ev_int]
    simp [h4, List.getElem?_set, show 4 < ρ.length by omega, lim, hg]
  have hall := allD_map ((List.range N).map p)
  generalize hW : (List.range N).map p = W at *
  have hgood : W.all id = true ↔ Good0 n (ent T) := by
    rw [← hW, List.all_map, List.all_eq_true]
    constructor
    · intro h i hi
      have := h i (List.mem_range.mpr (by omega))
      have := of_decide_eq_true this
      rw [hN] at this
      exact this
    · intro h i hi
      have := h i (by have := List.mem_range.mp hi; omega)
      rw [← hN] at this
      exact decide_eq_true this
  rw [← hn]
  unfold G_bounds runF m_bounds
  cases hb : W.all id with
  | true =>
    refine .inl ⟨hgood.mp hb, f2, ?_, by show RelN f2 (rK (B0 (T.length + 1) (ent T)) (2 * (T.length + 1)) (2 * (T.length + 1))); rw [← hn, ← hN]; exact g2⟩
    rw [hb] at hall
    generalize W.map D.bl = V at *
    simp [startS, lenD_tab, hn', m2, hN', hlr, h0, h1, h2, r2, c1, hall]
  | false =>
    refine .inr ⟨(fun g => by rw [hgood.mpr g] at hb; cases hb), ?_⟩
    rw [hb] at hall
    generalize W.map D.bl = V at *
    simp [startS, lenD_tab, hn', m2, hN', hlr, h0, h1, h2, r2, c1, hall]
theorem fits_eq {T : Tab} (hT : Shp T) (h12 : T.length + 1 ≤ 12) : ∃ b, G_fits [tabD T] = some (.bl b) ∧ (b = true ↔ Sol (T.length + 1) (ent T)) := by
  have hs := good_iff_sol (n := T.length + 1) (E := ent T) (by omega) (ent_symm T)
  unfold G_fits runF m_fits
  rcases bounds_eq hT h12 with ⟨g, m, h1, _⟩ | ⟨g, h1⟩
  · exact ⟨true, by simp [startS, h1, isNonD], fun _ => hs.mp g, fun _ => rfl⟩
  · exact ⟨false, by simp [startS, h1, isNonD], (fun h => by cases h), fun h => absurd (hs.mpr h) g⟩
end PW
/-! PL9: solution, shown. -/
namespace PW
open DL MA
theorem minI_spec : ∀ (xs : List Int) (m : Int), minI xs = some m → m ∈ xs ∧ ∀ x, x ∈ xs → m ≤ x := by
  have gen : ∀ (xs : List Int) (x : Int), (xs.foldl min x ∈ x :: xs) ∧ ∀ y, y ∈ x :: xs → xs.foldl min x ≤ y := by
    intro xs
    induction xs with
    | nil => exact fun x => ⟨List.mem_cons_self, fun y hy => by rw [List.mem_singleton.mp hy]; exact Int.le_refl _⟩
    | cons z xs ih =>
      intro x
      rw [List.foldl_cons]
      obtain ⟨h1, h2⟩ := ih (min x z)
      refine ⟨?_, fun y hy => ?_⟩
      · rcases List.mem_cons.mp h1 with h | h
        · rw [h]
          by_cases c : x ≤ z
          · rw [Int.min_eq_left c]
            exact List.mem_cons_self
          · rw [Int.min_eq_right (by omega)]
            exact List.mem_cons_of_mem _ List.mem_cons_self
        · exact List.mem_cons_of_mem _ (List.mem_cons_of_mem _ h)
      · have h3 := h2 (min x z) List.mem_cons_self
        rcases List.mem_cons.mp hy with h | h
        · rw [h]; omega
        · rcases List.mem_cons.mp h with h | h
          · rw [h]; omega
          · exact h2 y (List.mem_cons_of_mem _ h)
  intro xs m h
  cases xs with
  | nil => cases h
  | cons x xs =>
    have e : xs.foldl min x = m := Option.some.inj h
    obtain ⟨h1, h2⟩ := gen xs x
    rw [e] at h1 h2
    exact ⟨h1, h2⟩
theorem minI_some {xs : List Int} (h : xs ≠ []) : ∃ m, minI xs = some m := by
  cases xs with
  | nil => exact absurd rfl h
  | cons x xs => exact ⟨_, rfl⟩
theorem solution_b0 {T : Tab} {m : Mp} {F : Fn} {n N j : Nat} {hs : List D} {s5 s6 : Slot} (hr : RelN m F) (hN : N = 2 * n) (hn : n ≤ 12) (hj : j < N) (hd : ∃ v, F j j = some v) (hl : hs.length ≤ 1000) :
    ∃ v : Int, ex (phi [G_bounds]) cs b_solution_0 [.val (tabD T), .val (.dic m), .val (.int n), .lst hs, .val (.int j), s5, s6] = some (.nx [.val (tabD T), .val (.dic m), .val (.int n), .lst (hs ++ [.int v]), .val (.int j), s5, s6]) ∧ (∃ i, i < N ∧ F i j = some (-v)) ∧ ∀ i x, i < N → F i j = some x → v ≤ -x := by
  have m2 : mid 2 = true := by decide
  have hN' : 2 * (n : Int) = (N : Int) := by omega
  have r2 : r62 (N : Int) = true := r62_of (by omega) (by omega)
  let p : Nat → Bool := fun i => (F i j).isSome
  let W : List Int := ((List.range N).filter p).map fun i => -((F i j).getD 0)
  have c1 : ∀ (ρ : Env), ρ[1]? = some (some (.dic m)) → ρ[2]? = some (some (.int n)) → ρ[4]? = some (some (.int j)) → 7 ≤ ρ.length → ev (phi [G_bounds]) cs (.comp [6] [6] false (.rng1 (.bin .mul (.int 2) (.var 2))) (.din false (.tup (.cons (.var 6) (.cons (.var 4) .nil))) (.var 1)) (.dget (.var 1) (.tup (.cons (.var 6) (.cons (.var 4) .nil))))) ρ = some (.lst (W.map D.int)) := by
    intro ρ h1 h2 h4 hlen
    rw [List.map_map]
    refine comp_filter (g := fun k : Nat => D.int (k : Int)) (xs := List.range N) (p := p) (by simp [h2, m2, hN', r2, rngD_nat0]) (by rw [List.length_range]; omega) (fun k hk => ?_) (fun k hk hp => ?_)
    · have hg := hr k j
      show _ = some (D.bl (F k j).isSome)
      simp [h1, h2, h4, List.getElem?_set, show 6 < ρ.length by omega, lim, hg]
    · have hg := hr k j
      have hp : (F k j).isSome = true := hp
      obtain ⟨v, hv⟩ := Option.isSome_iff_exists.mp hp
      show _ = some (D.int (-((F k j).getD 0)))
      rw [hv] at hg ⊢
      simp [h1, h2, h4, List.getElem?_set, show 6 < ρ.length by omega, lim, hg]
  have hmin := minD_l W
  have memW : ∀ x, x ∈ W ↔ ∃ i v, i < N ∧ F i j = some v ∧ x = -v := fun x => by
    show x ∈ ((List.range N).filter p).map _ ↔ _
    rw [List.mem_map]
    constructor
    · rintro ⟨i, hi, rfl⟩
      obtain ⟨h1, h2⟩ := List.mem_filter.mp hi
      have h2 : (F i j).isSome = true := h2
      obtain ⟨v, hv⟩ := Option.isSome_iff_exists.mp h2
      exact ⟨i, v, List.mem_range.mp h1, hv, by rw [hv]; rfl⟩
    · rintro ⟨i, v, hi, hv, rfl⟩
      exact ⟨i, List.mem_filter.mpr ⟨List.mem_range.mpr hi, by show (F i j).isSome = true; rw [hv]; rfl⟩, by rw [hv]; rfl⟩
  obtain ⟨d, hd⟩ := hd
  obtain ⟨v, hv⟩ := minI_some (xs := W) (fun z => by
    have := (memW (-d)).mpr ⟨j, d, hj, hd, rfl⟩
    rw [z] at this
    cases this)
  obtain ⟨q1, q2⟩ := minI_spec _ _ hv
  rw [hv] at hmin
  obtain ⟨i, x, hi, hx, e⟩ := (memW v).mp q1
  refine ⟨v, ?_, ⟨i, hi, by rw [hx]; exact congrArg some (by omega)⟩, fun i x hi hx => q2 _ ((memW (-x)).mpr ⟨i, x, hi, hx, rfl⟩)⟩
  have hl' : hs.length ≤ lim := by unfold lim; omega
  have ha : ∀ f : Env → Option D, f (snapE [.val (tabD T), .val (.dic m), .val (.int n), .lst hs, .val (.int j), s5, s6]) = some (.int v) → appS [.val (tabD T), .val (.dic m), .val (.int n), .lst hs, .val (.int j), s5, s6] 3 (retain f [.val (tabD T), .val (.dic m), .val (.int n), .lst hs, .val (.int j), s5, s6]) = some (.nx [.val (tabD T), .val (.dic m), .val (.int n), .lst (hs ++ [.int v]), .val (.int j), s5, s6]) := fun f hf => by
    rw [retain_of hf (.inl rfl)]
    show (if hs.length ≤ lim then _ else _) = _
    rw [if_pos hl']
    rfl
  unfold b_solution_0
  rw [ex_seq, ex_app, ha]
  · rfl
  · rw [ev_blt, ev_cons, c1 (snapE [.val (tabD T), .val (.dic m), .val (.int n), .lst hs, .val (.int j), s5, s6]) rfl rfl rfl (Nat.le_refl 7)]
    exact hmin
theorem solution_ok {T : Tab} (hT : Shp T) (h12 : T.length + 1 ≤ 12) :
    (Sol (T.length + 1) (ent T) ∧ ∃ ws : List Int, G_solution [tabD T] = some (.tup [.int 64, .tup (ws.map D.int)]) ∧ ws.length = T.length + 1 ∧ Fit (T.length + 1) (ent T) 64 (dg ws)) ∨ (¬ Sol (T.length + 1) (ent T) ∧ G_solution [tabD T] = some .non) := by
  have hs := good_iff_sol (n := T.length + 1) (E := ent T) (by omega) (ent_symm T)
  rcases bounds_eq hT h12 with ⟨g, m, h1, hr⟩ | ⟨g, h1⟩
  · obtain ⟨n, hn⟩ : ∃ n, n = T.length + 1 := ⟨_, rfl⟩
    obtain ⟨N, hN⟩ : ∃ N, N = 2 * n := ⟨_, rfl⟩
    have hn' : (T.length : Int) + 1 = (n : Int) := by omega
    have hN' : 2 * (n : Int) = (N : Int) := by omega
    have m2 : mid 2 = true := by decide
    have c32 : cs 0 = 32 := rfl
    have r2 : r62 (n : Int) = true := r62_of (by omega) (by omega)
    have r3 : r62 (N : Int) = true := r62_of (by omega) (by omega)
    obtain ⟨st, h2, hts, x, e, hl, hh⟩ := loop_rng (Φ := phi [G_bounds]) (cs := cs) (body := b_solution_0) (j := 4) (a := 0) (b := N) (st := [.val (tabD T), .val (.dic m), .val (.int n), .lst [], .und, .und, .und]) (Nat.zero_le _)
      (fun k st => ∃ (hts : List Int) (x : Slot), st = [.val (tabD T), .val (.dic m), .val (.int n), .lst (hts.map D.int), x, .und, .und] ∧ hts.length = k ∧ ∀ j, j < k → (∃ i, i < N ∧ GB T i j = some (-(dg hts j))) ∧ ∀ i v, i < N → GB T i j = some v → dg hts j ≤ -v) ⟨[], .und, rfl, rfl, fun j hj => by omega⟩ (fun k st ⟨h, x, e, _⟩ => by rw [e]; exact (by decide : 4 < 7)) fun k _ hk st ⟨hts, x, e, hl, hh⟩ => by
        subst e
        obtain ⟨v, a1, a2, a3⟩ := solution_b0 (T := T) (m := m) (F := GB T) (n := n) (N := N) (j := k) (hs := hts.map D.int) (s5 := .und) (s6 := .und) hr hN (by omega) hk ⟨0, g k (by omega)⟩ (by rw [List.length_map]; omega)
        refine ⟨_, a1, hts ++ [v], _, by rw [List.map_append]; rfl, by rw [List.length_append, hl]; rfl, fun j hj => ?_⟩
        by_cases hjk : j = k
        · have : dg (hts ++ [v]) j = v := by
            unfold dg
            rw [List.getD_eq_getElem?_getD, hjk, ← hl, List.getElem?_concat_length]
            rfl
          rw [this, hjk]
          exact ⟨a2, a3⟩
        · have : dg (hts ++ [v]) j = dg hts j := by
            unfold dg
            rw [List.getD_eq_getElem?_getD, List.getElem?_append_left (by omega), List.getD_eq_getElem?_getD]
          rw [this]
          exact hh j (by omega)
    subst e
    rw [show ((0 : Nat) : Int) = 0 from rfl] at h2
    have hH : Hts (T.length + 1) (ent T) (dg hts) := hts_min g fun j hj => by
      have := hh j (by omega)
      rw [hN, hn] at this
      exact this
    let ws : List Int := (List.range n).map fun a => dg hts a - dg hts (n + a)
    have c1 : ∀ (ρ : Env), ρ[2]? = some (some (.int n)) → ρ[3]? = some (some (.lst (hts.map D.int))) → 7 ≤ ρ.length → ev (phi [G_bounds]) cs (.comp [5] [5] false (.rng1 (.var 2)) (.bl true) (.bin .sub (.ix (.var 3) (.var 5)) (.ix (.var 3) (.bin .add (.var 2) (.var 5))))) ρ = some (.lst (ws.map D.int)) := by
      intro ρ h2 h3 hlen
      rw [List.map_map]
      refine comp_map (g := fun k : Nat => D.int (k : Int)) (xs := List.range n) (by simp [h2, r2, rngD_nat0]) (by rw [List.length_range]; omega) fun k hk => ?_
      rw [List.mem_range] at hk
      have d1 : L2.atI (hts.map D.int) (k : Int) = some (.int (dg hts k)) := dig_at (by omega)
      have d2 : L2.atI (hts.map D.int) ((n : Int) + k) = some (.int (dg hts (n + k))) := by
        have := dig_at (ds := hts) (i := n + k) (by omega)
        rw [← this]
        congr 1
      simp [h2, h3, List.getElem?_set, show 5 < ρ.length by omega, d1, d2]
    have wl : ws.length = n := by
      show ((List.range n).map _).length = n
      rw [List.length_map, List.length_range]
    have wat : ∀ a, a < n → dg ws a = dg hts a - dg hts (n + a) := fun a ha => by
      have e : ws[a]? = some (dg hts a - dg hts (n + a)) := by
        show ((List.range n).map _)[a]? = _
        rw [List.getElem?_map, List.getElem?_range ha]
        rfl
      show ws.getD a 0 = _
      rw [List.getD_eq_getElem?_getD, e]
      rfl
    have hfit := fit_of_hts (ent_symm T) hH
    refine .inl ⟨hs.mp g, ws, ?_, by omega, hfit.1, fun i c v hi hc e => ?_⟩
    · generalize ws = V at *
      unfold G_solution runF m_solution
      simp [startS, h1, isNonD, lenD_tab, hn', m2, hN', r3, h2, lim, c1, toTD, c32]
    · have := hfit.2 i c v hi hc e
      rw [wat i (by omega), wat c (by omega), hn]
      exact this
  · refine .inr ⟨fun h => g (hs.mpr h), ?_⟩
    unfold G_solution runF m_solution
    simp [startS, h1, isNonD]
end PW
/-! PL10: shown and rounded tables. -/
namespace PW
open DL MA
/-- the table of a rounding g -/
def rowG (g : Int → Int) (ws : List Int) (a : Nat) : List (Option Int) := (ws.drop (a + 1)).map fun m => some (g (dg ws a + m))
def tabG (g : Int → Int) (ws : List Int) : Tab := (List.range (ws.length - 1)).map (rowG g ws)
theorem tabG_fdiv (u : Int) (ws : List Int) : tabG (fun x => x.fdiv u) ws = tabOf u ws := rfl
theorem rowG_congr {g g' : Int → Int} {ws ws' : List Int} {a : Nat} (hl : ws'.length = ws.length) (h : ∀ b, a < b → b < ws.length → g (dg ws a + dg ws b) = g' (dg ws' a + dg ws' b)) : rowG g ws a = rowG g' ws' a := by
  unfold rowG
  apply List.ext_getElem?
  intro i
  rw [List.getElem?_map, List.getElem?_map, List.getElem?_drop, List.getElem?_drop]
  by_cases hi : a + 1 + i < ws.length
  · have := h (a + 1 + i) (by omega) hi
    rw [List.getElem?_eq_getElem hi, List.getElem?_eq_getElem (by omega), ← dg_of hi, ← dg_of (show a + 1 + i < ws'.length by omega)]
    show some (some _) = some (some _)
    rw [this]
  · rw [List.getElem?_eq_none (by omega), List.getElem?_eq_none (by omega)]
    rfl
theorem tabG_congr {g g' : Int → Int} {ws ws' : List Int} (hl : ws'.length = ws.length) (h : ∀ a b, a < b → b < ws.length → g (dg ws a + dg ws b) = g' (dg ws' a + dg ws' b)) : tabG g ws = tabG g' ws' := by
  unfold tabG
  rw [hl]
  exact List.map_congr_left fun a ha => rowG_congr hl fun b h1 h2 => h a b h1 h2
theorem nb_row (r : List (Option Int)) : nbN 1 (rowD r) = true := by
  show (r.map oD).all (nbN 0) = true
  rw [List.all_eq_true]
  intro d hd
  obtain ⟨o, _, rfl⟩ := List.mem_map.mp hd
  cases o <;> rfl
theorem nb_tab (T : Tab) : nbN 2 (tabD T) = true := by
  show (T.map rowD).all (nbN 1) = true
  rw [List.all_eq_true]
  intro d hd
  obtain ⟨r, _, rfl⟩ := List.mem_map.mp hd
  exact nb_row r
theorem neD_self {x : D} {n : Nat} (h : nbN n x = true) (hn : n ≤ 60) : neD x x = some (.bl false) := by
  obtain ⟨b, h1, h2⟩ := neD_nb n hn h h
  cases b with
  | false => exact h1
  | true => exact absurd rfl (h2.mp rfl)
theorem eqD_self {x : D} {n : Nat} (h : nbN n x = true) (hn : n ≤ 60) : eqD x x = some (.bl true) := by
  obtain ⟨b, h1, h2⟩ := eqD_nb n hn h h
  rw [h2.mpr rfl] at h1
  exact h1
theorem drop_range {α : Type} (f : Int → α) (ws : List Int) (k : Nat) : (ws.drop k).map f = (List.range (ws.length - k)).map fun i => f (dg ws (k + i)) := by
  apply List.ext_getElem?
  intro i
  rw [List.getElem?_map, List.getElem?_drop, List.getElem?_map]
  by_cases hi : k + i < ws.length
  · rw [List.getElem?_eq_getElem hi, List.getElem?_range (by omega), ← dg_of hi]
    rfl
  · rw [List.getElem?_eq_none (by omega), List.getElem?_eq_none (by rw [List.length_range]; omega)]
    rfl
theorem shown_eq {u : Int} {ws : List Int} (hu : small30 u = true) (h1 : 1 ≤ ws.length) (h2 : ws.length ≤ 1000) : G_shown [.int u, .tup (ws.map D.int)] = some (tabD (tabOf u ws)) := by
  have r1 : r62 ((ws.length : Int) - 1) = true := r62_of (by omega) (by omega)
  have r2 : r62 (ws.length : Int) = true := r62_of (by omega) (by omega)
  let L : List D := (tabOf u ws).map fun r => D.lst (r.map oD)
  have c1 : ∀ (ρ : Env), ρ[0]? = some (some (.int u)) → ρ[1]? = some (some (.tup (ws.map D.int))) → ρ[2]? = some (some (.int (ws.length : Int))) → 7 ≤ ρ.length → ev (phi []) cs (.comp [4] [4] false (.rng1 (.bin .sub (.var 2) (.int 1))) (.bl true) (.comp [5] [5] false (.rng2 (.bin .add (.var 4) (.int 1)) (.var 2)) (.bl true) (.bin .fdiv (.bin .add (.ix (.var 1) (.var 4)) (.ix (.var 1) (.var 5))) (.var 0)))) ρ = some (.lst L) := by
    intro ρ e0 e1 e2 hlen
    show _ = some (D.lst ((tabOf u ws).map fun r => D.lst (r.map oD)))
    unfold tabOf
    rw [List.map_map]
    refine comp_map (g := fun k : Nat => D.int (k : Int)) (xs := List.range (ws.length - 1)) ?_ (by rw [List.length_range]; omega) fun a ha => ?_
    · have := rngD_nat0 (ws.length - 1)
      rw [show ((ws.length - 1 : Nat) : Int) = (ws.length : Int) - 1 by omega] at this
      simp [e2, r1, this]
    · rw [List.mem_range] at ha
      have r3 : r62 ((a : Int) + 1) = true := r62_of (by omega) (by omega)
      show _ = some (D.lst (((ws.drop (a + 1)).map fun m => some ((dg ws a + m).fdiv u)).map oD))
      rw [List.map_map, drop_range]
      refine comp_map (g := fun i : Nat => D.int ((a + 1 + i : Nat) : Int)) (xs := List.range (ws.length - (a + 1))) ?_ (by rw [List.length_range]; omega) fun i hi => ?_
      · have := rngD_nat (a + 1) ws.length
        rw [show ((a + 1 : Nat) : Int) = (a : Int) + 1 by omega] at this
        simp [e2, List.getElem?_set, show 4 < ρ.length by omega, r3, r2, this]
      · rw [List.mem_range] at hi
        have d1 : L2.atI (ws.map D.int) (a : Int) = some (.int (dg ws a)) := dig_at (by omega)
        have d2 : L2.atI (ws.map D.int) ((a : Int) + 1 + i) = some (.int (dg ws (a + 1 + i))) := by
          have := dig_at (ds := ws) (i := a + 1 + i) (by omega)
          rw [← this]
          congr 1
        simp [e0, e1, List.getElem?_set, show 4 < ρ.length by omega, show 5 < ρ.length by omega, d1, d2, hu]
  have c2 : ∀ (ρ : Env), ρ[3]? = some (some (.lst L)) → 7 ≤ ρ.length → ev (phi []) cs (.comp [6] [6] false (.var 3) (.bl true) (.blt .toT (.cons (.var 6) .nil))) ρ = some (.lst ((tabOf u ws).map rowD)) := by
    intro ρ e3 hlen
    refine comp_map (g := fun r : List (Option Int) => D.lst (r.map oD)) (xs := tabOf u ws) (by rw [ev_var, e3]; rfl) (by rw [tabOf_len]; omega) fun r hr => ?_
    simp [List.getElem?_set, show 6 < ρ.length by omega, toTD, rowD]
  generalize L = V at *
  unfold G_shown runF m_shown
  simp [startS, c1, c2, toTD_rows]
def up (u x : Int) : Int := x.fdiv u + (if 0 < x - x.fdiv u * u then 1 else 0)
def nr (u x : Int) : Int := x.fdiv u + (if u ≤ 2 * (x - x.fdiv u * u) then 1 else 0)
def kindD (b : Bool) : D := if b then .str "up" else .str "nearest"
def gk (b : Bool) (u x : Int) : Int := if b then up u x else nr u x
theorem toID_b (b : Bool) : toID [.bl b] = some (.int (if b then 1 else 0)) := by cases b <;> rfl
theorem eq_up : eqD (.str "up") (.str "up") = some (.bl true) := by
  have o1 : okD (.str "up") = true := by decide +kernel
  have q : PySem.PyData.eqv (D.py (.str "up")) (D.py (.str "up")) = true := by decide +kernel
  unfold eqD
  rw [o1, q]
  rfl
theorem eq_near : eqD (.str "nearest") (.str "up") = some (.bl false) := by
  have o1 : okD (.str "up") = true := by decide +kernel
  have o2 : okD (.str "nearest") = true := by decide +kernel
  have q : PySem.PyData.eqv (D.py (.str "nearest")) (D.py (.str "up")) = false := by decide +kernel
  unfold eqD
  rw [o1, o2, q]
  rfl
theorem rounded_b0 {b : Bool} {u o : Int} {ws : List Int} {a : Nat} {ds : List D} {s3 s7 s8 s9 : Slot} (hu : small30 u = true) (hm : mid u = true) (ha : a < ws.length) (hl : ds.length ≤ 1000) :
    ∃ x y z, ex (phi []) cs b__law_rounded_0 [.val (.int u), .val (.tup (ws.map D.int)), .val (kindD b), s3, .val (.int a), .lst ds, .val (.int o), s7, s8, s9] = some (.nx [.val (.int u), .val (.tup (ws.map D.int)), .val (kindD b), s3, .val (.int a), .lst (ds ++ [.int (gk b u (dg ws a + o))]), .val (.int o), x, y, z]) := by
  have d1 : L2.atI (ws.map D.int) (a : Int) = some (.int (dg ws a)) := dig_at ha
  have hl' : ds.length ≤ 100000 := by omega
  have m2 : mid 2 = true := by decide
  refine ⟨.val (.int (dg ws a + o)), .val (.int ((dg ws a + o).fdiv u)), .val (.int (dg ws a + o - (dg ws a + o).fdiv u * u)), ?_⟩
  generalize hx : dg ws a + o = x at *
  unfold b__law_rounded_0
  cases b with
  | true =>
    have e : eqD (.str "up") (.str "up") = some (.bl true) := eq_up
    have ek : kindD true = .str "up" := rfl
    have eg : gk true u x = x.fdiv u + (if 0 < x - x.fdiv u * u then 1 else 0) := rfl
    rw [ek, eg]
    by_cases hc : 0 < x - x.fdiv u * u
    · simp [d1, hx, hu, hm, m2, appS, lim, hl', e, toID_b, hc]
    · simp [d1, hx, hu, hm, m2, appS, lim, hl', e, toID_b, hc]
  | false =>
    have e : eqD (.str "nearest") (.str "up") = some (.bl false) := eq_near
    have ek : kindD false = .str "nearest" := rfl
    have eg : gk false u x = x.fdiv u + (if u ≤ 2 * (x - x.fdiv u * u) then 1 else 0) := rfl
    rw [ek, eg]
    by_cases hc : u ≤ 2 * (x - x.fdiv u * u)
    · simp [d1, hx, hu, hm, m2, appS, lim, hl', e, toID_b, hc]
    · simp [d1, hx, hu, hm, m2, appS, lim, hl', e, toID_b, hc]
theorem keepL_row : ∀ r : List (Option Int), keepL (r.map oD) = true
  | [] => rfl
  | o :: r => by
    have := keepL_row r
    show (keepD (oD o) && keepL (r.map oD)) = true
    rw [this]
    cases o <;> rfl
theorem keepD_row (r : List (Option Int)) : keepD (rowD r) = true := keepL_row r
theorem rounded_b1 {b : Bool} {u : Int} {ws : List Int} {a : Nat} {rows : List D} {s5 s6 s7 s8 s9 : Slot} (hu : small30 u = true) (hm : mid u = true) (ha : a < ws.length) (hw : ws.length ≤ 1000) (hl : rows.length ≤ 1000) :
    ∃ x y z v w, ex (phi []) cs b__law_rounded_1 [.val (.int u), .val (.tup (ws.map D.int)), .val (kindD b), .lst rows, .val (.int a), s5, s6, s7, s8, s9] = some (.nx [.val (.int u), .val (.tup (ws.map D.int)), .val (kindD b), .lst (rows ++ [rowD (rowG (gk b u) ws a)]), .val (.int a), x, y, z, v, w]) := by
  obtain ⟨ds, hds⟩ : ∃ d, d = ws.drop (a + 1) := ⟨_, rfl⟩
  have hdl : ds.length ≤ 1000 := by rw [hds, List.length_drop]; omega
  have hit : slAD (.tup (ws.map D.int)) (.int ((a : Int) + 1)) = some (.tup (ds.map D.int)) := by
    have := cutD_from D.int ws (a + 1)
    rw [show ((a + 1 : Nat) : Int) = (a : Int) + 1 by omega] at this
    show some (D.tup (cutD (ws.map D.int) (some ((a : Int) + 1)) none)) = _
    rw [this, hds]
  obtain ⟨st, h1, x, y, z, v, e⟩ := loop_go (Φ := phi []) (cs := cs) (body := b__law_rounded_0) (j := 6) (ds := ds.map D.int) (st := [.val (.int u), .val (.tup (ws.map D.int)), .val (kindD b), .lst rows, .val (.int a), .lst [], s6, s7, s8, s9])
    (fun k st => ∃ x y z v, st = [.val (.int u), .val (.tup (ws.map D.int)), .val (kindD b), .lst rows, .val (.int a), .lst ((ds.take k).map fun m => .int (gk b u (dg ws a + m))), x, y, z, v]) ⟨s6, s7, s8, s9, rfl⟩ (fun k st ⟨x, y, z, v, e⟩ => by rw [e]; exact (by decide : 6 < 10)) fun k hk st ⟨x, y, z, v, e⟩ => by
      subst e
      rw [List.length_map] at hk
      obtain ⟨x', y', z', h⟩ := rounded_b0 (b := b) (u := u) (o := ds[k]) (ws := ws) (a := a) (ds := (ds.take k).map fun m => .int (gk b u (dg ws a + m))) (s3 := .lst rows) (s7 := y) (s8 := z) (s9 := v) hu hm ha (by rw [List.length_map, List.length_take]; omega)
      refine ⟨_, by rw [List.getElem_map]; exact h, .val (.int ds[k]), x', y', z', ?_⟩
      rw [List.take_add_one, List.getElem?_eq_getElem hk, List.map_append]
      rfl
  subst e
  have hfin : ((ds.take (ds.map D.int).length).map fun m => D.int (gk b u (dg ws a + m))) = (rowG (gk b u) ws a).map oD := by
    rw [List.length_map, List.take_length]
    unfold rowG
    rw [← hds, List.map_map]
    rfl
  rw [hfin] at h1
  have hrd : toTD [.lst ((rowG (gk b u) ws a).map oD)] = some (rowD (rowG (gk b u) ws a)) := rfl
  have hrl : rows.length ≤ 100000 := by omega
  have hsc : scalD (rowD (rowG (gk b u) ws a)) = false := rfl
  have hkp := keepD_row (rowG (gk b u) ws a)
  generalize rowD (rowG (gk b u) ws a) = R at *
  generalize (rowG (gk b u) ws a).map oD = V at *
  refine ⟨.lst V, x, y, z, v, ?_⟩
  unfold b__law_rounded_1
  simp [lim, hit, h1, hrd, hsc, hkp, appS, hrl]
def roundsTo (b : Bool) (u : Int) (ws : List Int) (k : Nat) : List D := (List.range k).map fun a => rowD (rowG (gk b u) ws a)
theorem roundsTo_succ (b : Bool) (u : Int) (ws : List Int) (k : Nat) : roundsTo b u ws (k + 1) = roundsTo b u ws k ++ [rowD (rowG (gk b u) ws k)] := by
  unfold roundsTo
  rw [List.range_succ, List.map_append]
  rfl
theorem rounded_eq {b : Bool} {u : Int} {ws : List Int} (hu : small30 u = true) (hm : mid u = true) (h1 : 1 ≤ ws.length) (hw : ws.length ≤ 1000) : G__law_rounded [.int u, .tup (ws.map D.int), kindD b] = some (tabD (tabG (gk b u) ws)) := by
  have r1 : r62 ((ws.length : Int) - 1) = true := r62_of (by omega) (by omega)
  obtain ⟨st, h2, x, y, z, v, w, t, e⟩ := loop_rng (Φ := phi []) (cs := cs) (body := b__law_rounded_1) (j := 4) (a := 0) (b := ws.length - 1) (st := [.val (.int u), .val (.tup (ws.map D.int)), .val (kindD b), .lst [], .und, .und, .und, .und, .und, .und]) (Nat.zero_le _)
    (fun k st => ∃ x y z v w t, st = [.val (.int u), .val (.tup (ws.map D.int)), .val (kindD b), .lst (roundsTo b u ws k), x, y, z, v, w, t]) ⟨_, _, _, _, _, _, rfl⟩ (fun k st ⟨x, y, z, v, w, t, e⟩ => by rw [e]; exact (by decide : 4 < 10)) fun k _ hk st ⟨x, y, z, v, w, t, e⟩ => by
      subst e
      obtain ⟨x', y', z', v', w', h⟩ := rounded_b1 (b := b) (u := u) (ws := ws) (a := k) (rows := roundsTo b u ws k) (s5 := y) (s6 := z) (s7 := v) (s8 := w) (s9 := t) hu hm (by omega) hw (by unfold roundsTo; rw [List.length_map, List.length_range]; omega)
      exact ⟨_, h, _, _, _, _, _, _, by rw [roundsTo_succ]⟩
  subst e
  rw [show ((0 : Nat) : Int) = 0 from rfl, show ((ws.length - 1 : Nat) : Int) = (ws.length : Int) - 1 by omega] at h2
  have hfin : roundsTo b u ws (ws.length - 1) = (tabG (gk b u) ws).map rowD := by
    unfold roundsTo tabG
    rw [List.map_map]
    rfl
  rw [hfin] at h2
  unfold G__law_rounded runF m__law_rounded
  simp [startS, lim, r1, h2, toTD_rows]
end PW
/-! MD: total closed functions, tight heights (no program in sight). -/
namespace MA
/-- a total closed function on N nodes -/
structure Tot (N : Nat) (g : Nat → Nat → Int) : Prop where
  refl : ∀ x, x < N → g x x = 0
  tri : ∀ x y z, x < N → y < N → z < N → g x y + g y z ≤ g x z
/-- heights that keep g -/
def Ht (N : Nat) (g : Nat → Nat → Int) (h : Nat → Int) : Prop := ∀ x y, x < N → y < N → g x y ≤ h x - h y
section
variable {N : Nat} {g : Nat → Nat → Int}
theorem Tot.low (t : Tot N g) {v : Nat} (hv : v < N) : Ht N g fun x => g x v := fun x y hx hy => by
  have := t.tri x y v hx hy hv
  show g x y ≤ g x v - g y v
  omega
theorem Tot.high (t : Tot N g) {v : Nat} (hv : v < N) : Ht N g fun x => - g v x := fun x y hx hy => by
  have := t.tri v x y hv hx hy
  show g x y ≤ - g v x - - g v y
  omega
theorem Ht.sup {h k : Nat → Int} (a : Ht N g h) (b : Ht N g k) : Ht N g fun x => Max.max (h x) (k x) := fun x y hx hy => by
  have h1 := a x y hx hy
  have h2 := b x y hx hy
  show g x y ≤ Max.max (h x) (k x) - Max.max (h y) (k y)
  omega
theorem Ht.add {h : Nat → Int} (a : Ht N g h) (c : Int) : Ht N g fun x => h x + c := fun x y hx hy => by
  have h1 := a x y hx hy
  show g x y ≤ h x + c - (h y + c)
  omega
/-- two sources i, j and two sinks p, q: the least of (h i + h j) - (h p + h q) -/
theorem Tot.pair (t : Tot N g) {i j p q : Nat} (hi : i < N) (hj : j < N) (hp : p < N) (hq : q < N) : ∃ h, Ht N g h ∧ (h i + h j) - (h p + h q) = max (g i p + g j q) (g i q + g j p) := by
  have t1 := t.tri p q p hp hq hp
  have t2 := t.refl p hp
  have t3 := t.refl q hq
  have t4 := t.tri i p q hi hp hq
  have t5 := t.tri j q p hj hq hp
  have t6 := t.tri i q p hi hq hp
  have t7 := t.tri j p q hj hp hq
  obtain ⟨m, hm⟩ : ∃ m, m = Max.max (g i p + g j q) (g i q + g j p) := ⟨_, rfl⟩
  -- c between
  obtain ⟨c, c1, c2⟩ := between [g i p + g j p - m, g q p] [m - g i q - g j q, - g p q] 0 (by omega) (fun l hl r hr => by
    simp only [List.mem_cons, List.not_mem_nil, or_false] at hl hr
    rcases hl with rfl | rfl <;> rcases hr with rfl | rfl <;> omega)
  have a1 := c1 _ List.mem_cons_self
  have a2 := c1 _ (List.mem_cons_of_mem _ List.mem_cons_self)
  have a3 := c2 _ List.mem_cons_self
  have a4 := c2 _ (List.mem_cons_of_mem _ List.mem_cons_self)
  refine ⟨fun x => Max.max (g x p) (g x q + c), (t.low hp).sup ((t.low hq).add c), ?_⟩
  rw [← hm]
  show Max.max (g i p) (g i q + c) + Max.max (g j p) (g j q + c) - (Max.max (g p p) (g p q + c) + Max.max (g q p) (g q q + c)) = m
  omega
end
/-- a closed partial function, with heights h0, made total: what is not bound is bound far away -/
def tot (G : Fn) (h0 : Nat → Int) (K : Int) (x y : Nat) : Int := match G x y with
  | some v => v
  | none => h0 x - h0 y - K
theorem tot_ok {N : Nat} {G : Fn} {h0 : Nat → Int} {K : Int} (hc : ∀ m, m < N → Cl N G m) (hd : ∀ i, i < N → G i i = some 0) (hh : ∀ i j v, i < N → j < N → G i j = some v → v ≤ h0 i - h0 j) (hK0 : 0 ≤ K)
    (hK : ∀ i j v, i < N → j < N → G i j = some v → h0 i - h0 j - K ≤ v) : Tot N (tot G h0 K) := by
  refine ⟨fun x hx => ?_, fun x y z hx hy hz => ?_⟩
  · unfold tot
    rw [hd x hx]
  · have lo : ∀ a b, a < N → b < N → h0 a - h0 b - K ≤ tot G h0 K a b := fun a b ha hb => by
      unfold tot
      cases e : G a b with
      | none => exact Int.le_refl _
      | some v => exact hK a b v ha hb e
    have up : ∀ a b, a < N → b < N → tot G h0 K a b ≤ h0 a - h0 b := fun a b ha hb => by
      unfold tot
      cases e : G a b with
      | none => show h0 a - h0 b - K ≤ _; omega
      | some v => exact hh a b v ha hb e
    cases e1 : G x y with
    | none =>
      have a1 : tot G h0 K x y = h0 x - h0 y - K := by unfold tot; rw [e1]
      have := lo x z hx hz
      have := up y z hy hz
      omega
    | some a =>
      cases e2 : G y z with
      | none =>
        have a1 : tot G h0 K y z = h0 y - h0 z - K := by unfold tot; rw [e2]
        have := lo x z hx hz
        have := up x y hx hy
        omega
      | some b =>
        obtain ⟨c, e3, hle⟩ := hc y hy x z a b hx hz e1 e2
        unfold tot
        rw [e1, e2, e3]
        exact hle
/-- a bound beyond all values -/
theorem far_exists (N : Nat) (G : Fn) (h0 : Nat → Int) (B : Int) : ∃ K, 0 ≤ K ∧ B ≤ K ∧ ∀ i j v, i < N → j < N → G i j = some v → h0 i - h0 j - K ≤ v := by
  have row : ∀ i, ∃ K, 0 ≤ K ∧ ∀ j v, j < N → G i j = some v → h0 i - h0 j - K ≤ v := fun i => by
    obtain ⟨t, t1, t2⟩ := between (0 :: vals N fun j => (G i j).map fun v => h0 i - h0 j - v) [] 0 (by omega) (fun l _ r hr => nomatch hr)
    refine ⟨t, by have := t1 0 List.mem_cons_self; omega, fun j v hj e => ?_⟩
    have : h0 i - h0 j - v + 0 ≤ t := t1 _ (List.mem_cons_of_mem _ (mem_vals.mpr ⟨j, hj, by show (G i j).map _ = _; rw [e]; rfl⟩))
    omega
  have all : ∀ n, ∃ K, 0 ≤ K ∧ B ≤ K ∧ ∀ i j v, i < n → j < N → G i j = some v → h0 i - h0 j - K ≤ v := fun n => by
    induction n with
    | zero => exact ⟨max 0 B, by omega, by omega, fun i j v hi => by omega⟩
    | succ n ih =>
      obtain ⟨K, k0, kB, hK⟩ := ih
      obtain ⟨K2, k2, hK2⟩ := row n
      refine ⟨max K K2, by omega, by omega, fun i j v hi hj e => ?_⟩
      by_cases c : i = n
      · subst c
        have := hK2 j v hj e
        omega
      · have := hK i j v (by omega) hj e
        omega
  exact all N
end MA
/-! ME: the numbers that a pair can have (no program in sight). -/
namespace MA
abbrev GBn (n : Nat) (E : Fn) : Fn := rK (B0 n E) (2 * n) (2 * n)
/-- twin of a node -/
def tw (n x : Nat) : Nat := if x < n then n + x else x - n
theorem tw_lt {n x : Nat} (h : x < 2 * n) : tw n x < 2 * n := by unfold tw; split <;> omega
theorem tw_tw {n x : Nat} (h : x < 2 * n) : tw n (tw n x) = x := by
  unfold tw
  by_cases c : x < n
  · rw [if_pos c, if_neg (by omega)]; omega
  · rw [if_neg c, if_pos (by omega)]; omega
section
variable {n : Nat} {E : Fn}
theorem B0_dom {i j : Nat} {v : Int} (h : B0 n E i j = some v) : i < 2 * n ∧ j < 2 * n := by
  unfold B0 at h
  split at h
  · rename_i c
    split at h
    · omega
    · cases h
  · split at h
    · omega
    · split at h
      · omega
      · cases h
theorem GB_dom {i j : Nat} {v : Int} (h : GBn n E i j = some v) : i < 2 * n ∧ j < 2 * n :=
  All.rK (P := fun i j _ => i < 2 * n ∧ j < 2 * n) (fun i j k a b h1 h2 => ⟨h1.1, h2.2⟩) (fun i j v h => B0_dom h) (2 * n) (2 * n) i j v h
theorem B0_twin (sym : ∀ a b, E a b = E b a) {i j : Nat} {v : Int} (h : B0 n E i j = some v) : B0 n E (tw n j) (tw n i) = some v := by
  obtain ⟨hi, hj⟩ := B0_dom h
  unfold B0 at h
  by_cases c : i = j
  · subst c
    rw [if_pos rfl, if_pos hi] at h
    unfold B0
    rw [if_pos rfl, if_pos (tw_lt hi), h]
  · rw [if_neg c] at h
    by_cases d : i < n ∧ n ≤ j ∧ j < 2 * n
    · rw [if_pos d] at h
      have e1 : tw n j = j - n := by unfold tw; rw [if_neg (by omega)]
      have e2 : tw n i = n + i := by unfold tw; rw [if_pos (by omega)]
      unfold B0
      rw [e1, e2, if_neg (by omega), if_pos (by omega), show n + i - n = i by omega, sym]
      exact h
    · rw [if_neg d] at h
      by_cases d2 : n ≤ i ∧ i < 2 * n ∧ j < n
      · rw [if_pos d2] at h
        have e1 : tw n j = n + j := by unfold tw; rw [if_pos (by omega)]
        have e2 : tw n i = i - n := by unfold tw; rw [if_neg (by omega)]
        unfold B0
        rw [e1, e2, if_neg (by omega), if_neg (by omega), if_pos (by omega), show n + j - n = j by omega, sym]
        exact h
      · rw [if_neg d2] at h
        cases h
theorem B0_back {i j : Nat} {v : Int} (h : B0 n E i j = some v) : ∃ w, B0 n E j i = some w := by
  obtain ⟨hi, hj⟩ := B0_dom h
  unfold B0 at h
  by_cases c : i = j
  · subst c
    rw [if_pos rfl, if_pos hi] at h
    exact ⟨0, by unfold B0; rw [if_pos rfl, if_pos hi]⟩
  · rw [if_neg c] at h
    by_cases d : i < n ∧ n ≤ j ∧ j < 2 * n
    · rw [if_pos d, Option.map_eq_some_iff] at h
      obtain ⟨x, e, _⟩ := h
      exact ⟨1 - (x + 1) * 32, by unfold B0; rw [if_neg (Ne.symm c), if_neg (by omega), if_pos (by omega), e]; rfl⟩
    · rw [if_neg d] at h
      by_cases d2 : n ≤ i ∧ i < 2 * n ∧ j < n
      · rw [if_pos d2, Option.map_eq_some_iff] at h
        obtain ⟨x, e, _⟩ := h
        exact ⟨x * 32, by unfold B0; rw [if_neg (Ne.symm c), if_pos (by omega), e]; rfl⟩
      · rw [if_neg d2] at h
        cases h
theorem GB_tri (g : Good0 n E) {i k j : Nat} {a b : Int} (h1 : GBn n E i k = some a) (h2 : GBn n E k j = some b) : ∃ c, GBn n E i j = some c ∧ a + b ≤ c :=
  good_closed g k (GB_dom h1).2 i j a b (GB_dom h1).1 (GB_dom h2).2 h1 h2
theorem GB_back (g : Good0 n E) {i j : Nat} {v : Int} (h : GBn n E i j = some v) : ∃ w, GBn n E j i = some w :=
  All.rK (P := fun i j _ => ∃ w, GBn n E j i = some w) (fun i j k a b h1 h2 => by
    obtain ⟨x, hx⟩ := h1
    obtain ⟨y, hy⟩ := h2
    obtain ⟨c, hc, _⟩ := GB_tri g hy hx
    exact ⟨c, hc⟩) (fun i j v h => by
    obtain ⟨w, hw⟩ := B0_back h
    obtain ⟨c, hc, _⟩ := le_rK (B0 n E) (2 * n) (2 * n) j i w hw
    exact ⟨c, hc⟩) (2 * n) (2 * n) i j v h
theorem GB_twin (g : Good0 n E) (sym : ∀ a b, E a b = E b a) {i j : Nat} {v : Int} (h : GBn n E i j = some v) : GBn n E (tw n j) (tw n i) = some v := by
  have key : ∀ i j v, GBn n E i j = some v → ∃ w, GBn n E (tw n j) (tw n i) = some w ∧ v ≤ w := fun i j v h =>
    All.rK (P := fun i j v => ∃ w, GBn n E (tw n j) (tw n i) = some w ∧ v ≤ w) (fun i j k a b h1 h2 => by
      obtain ⟨x, hx, hxl⟩ := h1
      obtain ⟨y, hy, hyl⟩ := h2
      obtain ⟨c, hc, hcl⟩ := GB_tri g hy hx
      exact ⟨c, hc, by omega⟩) (fun i j v h => by
      obtain ⟨c, hc, hcl⟩ := le_rK (B0 n E) (2 * n) (2 * n) _ _ v (B0_twin sym h)
      exact ⟨c, hc, hcl⟩) (2 * n) (2 * n) i j v h
  obtain ⟨w, hw, hl⟩ := key i j v h
  obtain ⟨x, hx, hl2⟩ := key _ _ w hw
  obtain ⟨hi, hj⟩ := GB_dom h
  rw [tw_tw hi, tw_tw hj, h] at hx
  cases hx
  rw [hw]
  exact congrArg some (by omega)
/-- made total -/
theorem GB_tot (g : Good0 n E) (B : (Nat → Int) → Int) : ∃ h0 K, B h0 ≤ K ∧ 0 ≤ K ∧ Tot (2 * n) (tot (GBn n E) h0 K) ∧ (∀ x y, x < 2 * n → y < 2 * n → h0 x - h0 y - K ≤ tot (GBn n E) h0 K x y ∧ tot (GBn n E) h0 K x y ≤ h0 x - h0 y) := by
  obtain ⟨h0, hh0⟩ := good_iff_hts.mp g
  have hh : ∀ i j v, i < 2 * n → j < 2 * n → GBn n E i j = some v → v ≤ h0 i - h0 j := fun i j v _ _ e => rK_all hh0 (2 * n) (2 * n) i j v e
  obtain ⟨K, k0, kB, hK⟩ := far_exists (2 * n) (GBn n E) h0 (B h0)
  refine ⟨h0, K, kB, k0, tot_ok (good_closed g) g hh k0 hK, fun x y hx hy => ?_⟩
  unfold tot
  cases e : GBn n E x y with
  | none => exact ⟨Int.le_refl _, by show h0 x - h0 y - K ≤ _; omega⟩
  | some v => exact ⟨hK x y v hx hy e, hh x y v hx hy e⟩
theorem hts_ht {h0 : Nat → Int} {K : Int} {h : Nat → Int} (hh : Ht (2 * n) (tot (GBn n E) h0 K) h) : Hts n E h := hts_of fun i j v hi hj e => by
  have := hh i j hi hj
  unfold tot at this
  rw [show GBn n E i j = some v from e] at this
  exact this
/-! ### between two solutions -/
theorem Fit.mix {U1 U2 : Int} {w1 w2 : Nat → Int} (f1 : Fit n E U1 w1) (f2 : Fit n E U2 w2) {a b : Int} (ha : 0 ≤ a) (hb : 0 ≤ b) (hab : 0 < a + b) : Fit n E (a * U1 + b * U2) fun i => a * w1 i + b * w2 i := by
  have p1 := f1.1
  have p2 := f2.1
  have q1 : 0 ≤ a * U1 := Int.mul_nonneg ha (Int.le_of_lt p1)
  have q2 : 0 ≤ b * U2 := Int.mul_nonneg hb (Int.le_of_lt p2)
  have hpos : 0 < a * U1 + b * U2 := by
    by_cases c : 0 < a
    · have := Int.mul_pos c p1
      omega
    · have := Int.mul_pos (show 0 < b by omega) p2
      omega
  refine ⟨hpos, fun i c v hi hc e => ?_⟩
  obtain ⟨l1, r1⟩ := f1.2 i c v hi hc e
  obtain ⟨l2, r2⟩ := f2.2 i c v hi hc e
  have L1 := Int.mul_le_mul_of_nonneg_left l1 ha
  have L2 := Int.mul_le_mul_of_nonneg_left l2 hb
  have e1 : v * (a * U1 + b * U2) = a * (v * U1) + b * (v * U2) := by rw [Int.mul_add, ← Int.mul_assoc, ← Int.mul_assoc, Int.mul_comm v a, Int.mul_comm v b, Int.mul_assoc, Int.mul_assoc]
  have e2 : (v + 1) * (a * U1 + b * U2) = a * ((v + 1) * U1) + b * ((v + 1) * U2) := by rw [Int.mul_add, ← Int.mul_assoc, ← Int.mul_assoc, Int.mul_comm (v + 1) a, Int.mul_comm (v + 1) b, Int.mul_assoc, Int.mul_assoc]
  have e3 : a * (w1 i + w1 c) = a * w1 i + a * w1 c := Int.mul_add _ _ _
  have e4 : b * (w2 i + w2 c) = b * w2 i + b * w2 c := Int.mul_add _ _ _
  refine ⟨?_, ?_⟩
  · rw [e1]
    show _ ≤ a * w1 i + b * w2 i + (a * w1 c + b * w2 c)
    omega
  · rw [e2]
    show a * w1 i + b * w2 i + (a * w1 c + b * w2 c) < _
    by_cases c0 : 0 < a
    · have R1 := Int.mul_lt_mul_of_pos_left r1 c0
      have R2 := Int.mul_le_mul_of_nonneg_left (Int.le_of_lt r2) hb
      omega
    · have hb0 : 0 < b := by omega
      have ha0 : a = 0 := by omega
      have R2 := Int.mul_lt_mul_of_pos_left r2 hb0
      subst ha0
      simp only [Int.zero_mul] at *
      omega
/-- a number between those of two solutions (unit 64) -/
theorem mid_fit {w1 w2 : Nat → Int} (f1 : Fit n E 64 w1) (f2 : Fit n E 64 w2) {i j : Nat} {v : Int} (h1 : w1 i + w1 j < (v + 1) * 64) (h2 : v * 64 ≤ w2 i + w2 j) : ∃ U w, Fit n E U w ∧ v * U ≤ w i + w j ∧ w i + w j < (v + 1) * U := by
  by_cases c1 : v * 64 ≤ w1 i + w1 j
  · exact ⟨64, w1, f1, c1, h1⟩
  · by_cases c2 : w2 i + w2 j < (v + 1) * 64
    · exact ⟨64, w2, f2, h2, c2⟩
    · -- weights a = S2 - 64 v, b = 64 v - S1
      have ha : 0 ≤ w2 i + w2 j - v * 64 := by omega
      have hb : 0 < v * 64 - (w1 i + w1 j) := by omega
      have f := f1.mix f2 ha (Int.le_of_lt hb) (by omega)
      generalize hA : w2 i + w2 j - v * 64 = a at *
      generalize hB : v * 64 - (w1 i + w1 j) = b at *
      refine ⟨_, _, f, ?_⟩
      have e1 : a * w1 i + b * w2 i + (a * w1 j + b * w2 j) = a * (w1 i + w1 j) + b * (w2 i + w2 j) := by rw [Int.mul_add, Int.mul_add]; omega
      have e2 : w1 i + w1 j = v * 64 - b := by omega
      have e3 : w2 i + w2 j = v * 64 + a := by omega
      have e4 : a * (v * 64 - b) + b * (v * 64 + a) = v * (a * 64 + b * 64) := by
        rw [Int.mul_sub, Int.mul_add, Int.mul_comm b a]
        have : v * (a * 64 + b * 64) = a * (v * 64) + b * (v * 64) := by rw [Int.mul_add, ← Int.mul_assoc, ← Int.mul_assoc, Int.mul_comm v a, Int.mul_comm v b, Int.mul_assoc, Int.mul_assoc]
        omega
      have hpos := f.1
      show v * (a * 64 + b * 64) ≤ a * w1 i + b * w2 i + (a * w1 j + b * w2 j) ∧ a * w1 i + b * w2 i + (a * w1 j + b * w2 j) < (v + 1) * (a * 64 + b * 64)
      rw [e1, e2, e3, e4, Int.add_mul, Int.one_mul]
      omega
end
end MA
/-! MF: pair_range and weight_range, plain. -/
namespace MA
def lowsP (G : Fn) (n i j : Nat) : List Int := (match G i (n + j) with | some a => [2 * a] | none => []) ++ (match G i (n + i), G j (n + j) with | some a, some b => [a + b] | _, _ => [])
def highsP (G : Fn) (n i j : Nat) : List Int := (match G (n + j) i with | some a => [-(2 * a)] | none => []) ++ (match G (n + i) i, G (n + j) j with | some a, some b => [-(a + b)] | _, _ => [])
/-- weights with v at the pair -/
def Has (n : Nat) (E : Fn) (i j : Nat) (v : Int) : Prop := ∃ U w, Fit n E U w ∧ v * U ≤ w i + w j ∧ w i + w j < (v + 1) * U
section
variable {n : Nat} {E : Fn}
theorem tw_o {i : Nat} (h : i < n) : tw n i = n + i := by unfold tw; rw [if_pos h]
theorem tw_t {i : Nat} : tw n (n + i) = i := by unfold tw; rw [if_neg (by omega)]; omega
theorem pair_iff (hn : 2 * n ≤ 32) (g : Good0 n E) (sym : ∀ a b, E a b = E b a) {i j : Nat} (hi : i < n) (hj : j < n) (v : Int) : Has n E i j v ↔ (∀ l, l ∈ lowsP (GBn n E) n i j → l < (v + 1) * 64) ∧ ∀ h, h ∈ highsP (GBn n E) n i j → v * 64 ≤ h := by
  constructor
  · rintro ⟨U, w, f, h1, h2⟩
    obtain ⟨h, hh, key⟩ := hts_of_fit hn f
    have a1 := (key i j hi hj v).mp h1
    have a2 := (key j i hj hi v).mp (by omega)
    have b1 : h i - h (n + j) < (v + 1) * 32 := by
      by_cases q : (v + 1) * 32 ≤ h i - h (n + j)
      · have := (key i j hi hj (v + 1)).mpr q
        omega
      · omega
    have b2 : h j - h (n + i) < (v + 1) * 32 := by
      by_cases q : (v + 1) * 32 ≤ h j - h (n + i)
      · have := (key j i hj hi (v + 1)).mpr q
        omega
      · omega
    have lo : ∀ x y c, GBn n E x y = some c → c ≤ h x - h y := fun x y c e => rK_all hh (2 * n) (2 * n) x y c e
    refine ⟨fun l hl => ?_, fun l hl => ?_⟩
    · rcases List.mem_append.mp hl with hl | hl
      · split at hl
        · rename_i a e
          rw [List.mem_singleton.mp hl]
          have := lo _ _ _ e
          omega
        · cases hl
      · split at hl
        · rename_i a b e1 e2
          rw [List.mem_singleton.mp hl]
          have := lo _ _ _ e1
          have := lo _ _ _ e2
          omega
        · cases hl
    · rcases List.mem_append.mp hl with hl | hl
      · split at hl
        · rename_i a e
          rw [List.mem_singleton.mp hl]
          have := lo _ _ _ e
          omega
        · cases hl
      · split at hl
        · rename_i a b e1 e2
          rw [List.mem_singleton.mp hl]
          have := lo _ _ _ e1
          have := lo _ _ _ e2
          omega
        · cases hl
  · rintro ⟨hl, hh⟩
    obtain ⟨h0, K, hB, hK0, t, tb⟩ := GB_tot g fun h0 => max (h0 i - h0 (n + i) + (h0 j - h0 (n + j)) - (v + 1) * 64 + 1) (v * 64 - (h0 i - h0 (n + i) + (h0 j - h0 (n + j))))
    obtain ⟨ha, pa, ea⟩ := t.pair (i := i) (j := j) (p := n + i) (q := n + j) (by omega) (by omega) (by omega) (by omega)
    obtain ⟨hb, pb, eb⟩ := t.pair (i := n + i) (j := n + j) (p := i) (q := j) (by omega) (by omega) (by omega) (by omega)
    have tsome : ∀ x y c, GBn n E x y = some c → tot (GBn n E) h0 K x y = c := fun x y c e => by unfold tot; rw [show GBn n E x y = some c from e]
    have tnone : ∀ x y, GBn n E x y = none → tot (GBn n E) h0 K x y = h0 x - h0 y - K := fun x y e => by unfold tot; rw [show GBn n E x y = none from e]
    have q1 := tb i (n + j) (by omega) (by omega)
    have q2 := tb j (n + i) (by omega) (by omega)
    have q3 := tb i (n + i) (by omega) (by omega)
    have q4 := tb j (n + j) (by omega) (by omega)
    have q5 := tb (n + i) j (by omega) (by omega)
    have q6 := tb (n + j) i (by omega) (by omega)
    have q7 := tb (n + i) i (by omega) (by omega)
    have q8 := tb (n + j) j (by omega) (by omega)
    have A1 : tot (GBn n E) h0 K i (n + i) + tot (GBn n E) h0 K j (n + j) < (v + 1) * 64 := by
      cases e1 : GBn n E i (n + i) with
      | none =>
        rw [tnone _ _ e1] at q3 ⊢
        omega
      | some a =>
        cases e2 : GBn n E j (n + j) with
        | none =>
          rw [tnone _ _ e2] at q4 ⊢
          omega
        | some b =>
          rw [tsome _ _ _ e1, tsome _ _ _ e2]
          exact hl _ (List.mem_append_right _ (by rw [e1, e2]; exact List.mem_singleton.mpr rfl))
    have A2 : tot (GBn n E) h0 K i (n + j) + tot (GBn n E) h0 K j (n + i) < (v + 1) * 64 := by
      cases e1 : GBn n E i (n + j) with
      | none =>
        rw [tnone _ _ e1] at q1 ⊢
        omega
      | some a =>
        have e2 := GB_twin g sym e1
        rw [tw_t, tw_o hi] at e2
        rw [tsome _ _ _ e1, tsome _ _ _ e2]
        have := hl (2 * a) (List.mem_append_left _ (by rw [e1]; exact List.mem_singleton.mpr rfl))
        omega
    have B1 : v * 64 ≤ -(tot (GBn n E) h0 K (n + i) i + tot (GBn n E) h0 K (n + j) j) := by
      cases e1 : GBn n E (n + i) i with
      | none =>
        rw [tnone _ _ e1] at q7 ⊢
        omega
      | some a =>
        cases e2 : GBn n E (n + j) j with
        | none =>
          rw [tnone _ _ e2] at q8 ⊢
          omega
        | some b =>
          rw [tsome _ _ _ e1, tsome _ _ _ e2]
          exact hh _ (List.mem_append_right _ (by rw [e1, e2]; exact List.mem_singleton.mpr rfl))
    have B2 : v * 64 ≤ -(tot (GBn n E) h0 K (n + i) j + tot (GBn n E) h0 K (n + j) i) := by
      cases e1 : GBn n E (n + j) i with
      | none =>
        rw [tnone _ _ e1] at q6 ⊢
        omega
      | some a =>
        have e2 := GB_twin g sym e1
        rw [tw_t, tw_o hi] at e2
        rw [tsome _ _ _ e1, tsome _ _ _ e2]
        have := hh (-(2 * a)) (List.mem_append_left _ (by rw [e1]; exact List.mem_singleton.mpr rfl))
        omega
    have fa := fit_of_hts sym (hts_ht pa)
    have fb := fit_of_hts sym (hts_ht pb)
    refine mid_fit fa fb ?_ ?_
    · show ha i - ha (n + i) + (ha j - ha (n + j)) < (v + 1) * 64
      omega
    · show v * 64 ≤ hb i - hb (n + i) + (hb j - hb (n + j))
      omega
end
end MA
/-! PL11: pair_range, weight_range. -/
namespace PW
open DL MA
theorem fdiv64 {x v : Int} : (x < (v + 1) * 64 ↔ x.fdiv 64 ≤ v) ∧ (v * 64 ≤ x ↔ v ≤ x.fdiv 64) := by
  obtain ⟨a, b⟩ := fdiv_bounds (x := x) (u := 64) (by decide)
  constructor <;> constructor <;> intro h <;> omega
def stA : DL.S := (.ite (.din false (.tup (.cons (.var 1) (.cons (.bin .add (.var 4) (.var 2)) .nil))) (.var 3)) (.seq (.app 5 (.bin .mul (.neg (.int 2)) (.dget (.var 3) (.tup (.cons (.var 1) (.cons (.bin .add (.var 4) (.var 2)) .nil)))))) (.seq (.app 6 (.bin .mul (.int 2) (.dget (.var 3) (.tup (.cons (.bin .add (.var 4) (.var 2)) (.cons (.var 1) .nil)))))) .skip)) .skip)
def stB : DL.S := (.ite (.an (.din false (.tup (.cons (.var 1) (.cons (.bin .add (.var 4) (.var 1)) .nil))) (.var 3)) (.din false (.tup (.cons (.var 2) (.cons (.bin .add (.var 4) (.var 2)) .nil))) (.var 3))) (.seq (.app 5 (.bin .sub (.neg (.dget (.var 3) (.tup (.cons (.var 1) (.cons (.bin .add (.var 4) (.var 1)) .nil))))) (.dget (.var 3) (.tup (.cons (.var 2) (.cons (.bin .add (.var 4) (.var 2)) .nil)))))) (.seq (.app 6 (.bin .add (.dget (.var 3) (.tup (.cons (.bin .add (.var 4) (.var 1)) (.cons (.var 1) .nil)))) (.dget (.var 3) (.tup (.cons (.bin .add (.var 4) (.var 2)) (.cons (.var 2) .nil)))))) .skip)) .skip)
def L1 (F : Fn) (n i j : Nat) : List Int := match F i (n + j) with | some a => [2 * a] | none => []
def H1 (F : Fn) (n i j : Nat) : List Int := match F (n + j) i with | some a => [-(2 * a)] | none => []
def L2 (F : Fn) (n i j : Nat) : List Int := match F i (n + i), F j (n + j) with | some a, some b => [a + b] | _, _ => []
def H2 (F : Fn) (n i j : Nat) : List Int := match F (n + i) i, F (n + j) j with | some a, some b => [-(a + b)] | _, _ => []
section
variable {m : Mp} {F : Fn} {n i j : Nat} {s0 : Slot} (hr : RelN m F) (back : ∀ x y a, F x y = some a → ∃ b, F y x = some b)
include hr back
theorem stA_ok : ex (phi [G_bounds]) cs stA [s0, .val (.int i), .val (.int j), .val (.dic m), .val (.int n), .lst [], .lst []] = some (.nx [s0, .val (.int i), .val (.int j), .val (.dic m), .val (.int n), .lst ((L1 F n i j).map D.int), .lst ((H1 F n i j).map D.int)]) := by
  have k1 := hr i (n + j)
  have k2 := hr (n + j) i
  rw [show ((n + j : Nat) : Int) = (n : Int) + j by omega] at k1 k2
  have m2 : mid 2 = true := by decide
  have m2n : mid (-2) = true := by decide
  unfold stA L1 H1
  cases e1 : F i (n + j) with
  | none =>
    have e2 : F (n + j) i = none := by
      cases e2 : F (n + j) i with
      | none => rfl
      | some b => obtain ⟨a, e⟩ := back _ _ b e2; rw [e1] at e; cases e
    rw [e1] at k1
    rw [e2]
    simp [lim, k1]
  | some a =>
    obtain ⟨b, e2⟩ := back _ _ a e1
    rw [e1] at k1
    rw [e2] at k2 ⊢
    have q1 : (-2 : Int) * -a = 2 * a := by omega
    have q2 : (2 : Int) * -b = -(2 * b) := by omega
    have k1' : dlook m ((i : Int), (n : Int) + j) = some (-a) := k1
    have k2' : dlook m ((n : Int) + j, (i : Int)) = some (-b) := k2
    simp [lim, k1', k2', m2, m2n, appS, q1, q2]
theorem stB_ok {L H : List Int} (hL : L.length ≤ 10) (hH : H.length ≤ 10) : ex (phi [G_bounds]) cs stB [s0, .val (.int i), .val (.int j), .val (.dic m), .val (.int n), .lst (L.map D.int), .lst (H.map D.int)] = some (.nx [s0, .val (.int i), .val (.int j), .val (.dic m), .val (.int n), .lst ((L ++ L2 F n i j).map D.int), .lst ((H ++ H2 F n i j).map D.int)]) := by
  have k3 := hr i (n + i)
  have k4 := hr j (n + j)
  have k5 := hr (n + i) i
  have k6 := hr (n + j) j
  rw [show ((n + j : Nat) : Int) = (n : Int) + j by omega] at k4 k6
  rw [show ((n + i : Nat) : Int) = (n : Int) + i by omega] at k3 k5
  have hl1 : L.length ≤ 100000 := by omega
  have hl2 : H.length ≤ 100000 := by omega
  rw [List.map_append, List.map_append]
  unfold stB L2 H2
  cases e1 : F i (n + i) with
  | none =>
    have e2 : F (n + i) i = none := by
      cases e2 : F (n + i) i with
      | none => rfl
      | some b => obtain ⟨a, e⟩ := back _ _ b e2; rw [e1] at e; cases e
    rw [e1] at k3
    rw [e2]
    simp [lim, k3]
  | some a =>
    obtain ⟨c, e5⟩ := back _ _ a e1
    rw [e1] at k3
    rw [e5] at k5 ⊢
    have k3' : dlook m ((i : Int), (n : Int) + i) = some (-a) := k3
    have k5' : dlook m ((n : Int) + i, (i : Int)) = some (-c) := k5
    cases e3 : F j (n + j) with
    | none =>
      have e4 : F (n + j) j = none := by
        cases e4 : F (n + j) j with
        | none => rfl
        | some b => obtain ⟨a, e⟩ := back _ _ b e4; rw [e3] at e; cases e
      rw [e3] at k4
      rw [e4]
      simp [lim, k3', k4]
    | some b =>
      obtain ⟨d, e6⟩ := back _ _ b e3
      rw [e3] at k4
      rw [e6] at k6 ⊢
      have k4' : dlook m ((j : Int), (n : Int) + j) = some (-b) := k4
      have k6' : dlook m ((n : Int) + j, (j : Int)) = some (-d) := k6
      have q1 : - -a - -b = a + b := by omega
      have q2 : -c + -d = -(c + d) := by omega
      simp [lim, k3', k4', k5', k6', appS, hl1, hl2]
      omega
end
theorem m_pair_eq : m_pair_range = (.seq (.asg 3 (.call 0 (.cons (.var 0) .nil))) (.seq (.ite (.cmp .is (.var 3) .non) (.seq (.ret .non) .skip) .skip) (.seq (.asg 4 (.bin .add (.blt .len (.cons (.var 0) .nil)) (.int 1))) (.seq (.par 5 6 .lst .lst (.lst .nil) (.lst .nil)) (.seq stA (.seq stB (.seq (.ite (.cmp .eq (.var 5) (.lst .nil)) (.seq (.ret (.tup (.cons .non (.cons .non .nil)))) .skip) .skip) (.seq (.ret (.tup (.cons (.bin .fdiv (.blt .max (.cons (.var 5) .nil)) (.bin .mul (.int 2) (.con 0))) (.cons (.bin .fdiv (.blt .min (.cons (.var 6) .nil)) (.bin .mul (.int 2) (.con 0))) .nil)))) .skip)))))))) := rfl
theorem le_fdiv {x v : Int} : v * 64 ≤ x ↔ v ≤ x.fdiv 64 := fdiv64.2
theorem lt_fdiv {x v : Int} : x < (v + 1) * 64 ↔ x.fdiv 64 ≤ v := fdiv64.1
theorem pair_range_ok {T : Tab} (hT : Shp T) (h12 : T.length + 1 ≤ 12) {i j : Nat} (hi : i < T.length + 1) (hj : j < T.length + 1) :
    (Sol (T.length + 1) (ent T) ∧ ((G_pair_range [tabD T, .int i, .int j] = some (.tup [.non, .non]) ∧ ∀ v, Has (T.length + 1) (ent T) i j v) ∨
      ∃ lo hi, G_pair_range [tabD T, .int i, .int j] = some (.tup [.int lo, .int hi]) ∧ ∀ v, Has (T.length + 1) (ent T) i j v ↔ lo ≤ v ∧ v ≤ hi)) ∨
    (¬ Sol (T.length + 1) (ent T) ∧ G_pair_range [tabD T, .int i, .int j] = some .non) := by
  have hs := good_iff_sol (n := T.length + 1) (E := ent T) (by omega) (ent_symm T)
  rcases bounds_eq hT h12 with ⟨g, m, h1, hr⟩ | ⟨g, h1⟩
  · left
    refine ⟨hs.mp g, ?_⟩
    obtain ⟨n, hn⟩ : ∃ n, n = T.length + 1 := ⟨_, rfl⟩
    have pif : ∀ v, Has (T.length + 1) (ent T) i j v ↔ (∀ l, l ∈ L1 (GB T) n i j ++ L2 (GB T) n i j → l < (v + 1) * 64) ∧ ∀ h, h ∈ H1 (GB T) n i j ++ H2 (GB T) n i j → v * 64 ≤ h := fun v => by
      rw [hn]
      exact pair_iff (n := T.length + 1) (by omega) g (ent_symm T) hi hj v
    have back : ∀ x y a, GB T x y = some a → ∃ b, GB T y x = some b := fun x y a e => GB_back g e
    have hn' : (T.length : Int) + 1 = (n : Int) := by omega
    have m2 : mid 2 = true := by decide
    have c32 : cs 0 = 32 := rfl
    have s64 : small30 64 = true := by decide
    have hA := stA_ok (n := n) (i := i) (j := j) (s0 := .val (tabD T)) hr back
    have l1 : (L1 (GB T) n i j).length ≤ 10 := by unfold L1; split <;> simp
    have l2 : (H1 (GB T) n i j).length ≤ 10 := by unfold H1; split <;> simp
    have hB := stB_ok (n := n) (i := i) (j := j) (s0 := .val (tabD T)) hr back l1 l2
    have hne : (L1 (GB T) n i j ++ L2 (GB T) n i j = [] ↔ H1 (GB T) n i j ++ H2 (GB T) n i j = []) := by
      have e1 : L1 (GB T) n i j = [] ↔ H1 (GB T) n i j = [] := by
        unfold L1 H1
        cases q : GB T i (n + j) with
        | none =>
          cases q2 : GB T (n + j) i with
          | none => exact ⟨fun _ => rfl, fun _ => rfl⟩
          | some b => obtain ⟨a, e⟩ := back _ _ b q2; rw [q] at e; cases e
        | some a =>
          obtain ⟨b, e⟩ := back _ _ a q
          rw [e]
          exact ⟨fun h => (nomatch h), fun h => (nomatch h)⟩
      have e2 : L2 (GB T) n i j = [] ↔ H2 (GB T) n i j = [] := by
        unfold L2 H2
        cases q : GB T i (n + i) with
        | none =>
          cases q2 : GB T (n + i) i with
          | none => exact ⟨fun _ => rfl, fun _ => rfl⟩
          | some b => obtain ⟨a, e⟩ := back _ _ b q2; rw [q] at e; cases e
        | some a =>
          obtain ⟨b, e⟩ := back _ _ a q
          rw [e]
          cases q3 : GB T j (n + j) with
          | none =>
            cases q2 : GB T (n + j) j with
            | none => exact ⟨fun _ => rfl, fun _ => rfl⟩
            | some b => obtain ⟨a, e⟩ := back _ _ b q2; rw [q3] at e; cases e
          | some a =>
            obtain ⟨b, e⟩ := back _ _ a q3
            rw [e]
            exact ⟨fun h => (nomatch h), fun h => (nomatch h)⟩
      rw [List.append_eq_nil_iff, List.append_eq_nil_iff, e1, e2]
    generalize L1 (GB T) n i j ++ L2 (GB T) n i j = LL at *
    generalize H1 (GB T) n i j ++ H2 (GB T) n i j = HH at *
    generalize L1 (GB T) n i j = La at *
    generalize H1 (GB T) n i j = Ha at *
    have heq := eqD_nil (xs := LL.map D.int) (n := 0) (okN_ints _) (by decide)
    have hmx := maxD_l LL
    have hmn := minD_l HH
    unfold G_pair_range runF
    rw [m_pair_eq]
    by_cases hLL : LL = []
    · left
      have hHH := hne.mp hLL
      subst hLL
      subst hHH
      refine ⟨?_, fun v => (pif v).mpr ⟨(fun l h => nomatch h), fun l h => nomatch h⟩⟩
      simp only [List.map_nil] at hB heq
      generalize La.map D.int = DA at *
      generalize Ha.map D.int = DB at *
      simp [startS, h1, isNonD, lenD_tab, hn', lim, hA, hB, heq]
    · right
      obtain ⟨mx, hm1⟩ := maxI_some hLL
      obtain ⟨mn, hm2⟩ := minI_some (fun z => hLL (hne.mpr z))
      obtain ⟨x1, x2⟩ := maxI_spec _ _ hm1
      obtain ⟨y1, y2⟩ := minI_spec _ _ hm2
      rw [hm1] at hmx
      rw [hm2] at hmn
      have hemp : (LL.map D.int).isEmpty = false := by
        cases LL with
        | nil => exact absurd rfl hLL
        | cons _ _ => rfl
      rw [hemp] at heq
      refine ⟨mx.fdiv 64, mn.fdiv 64, ?_, fun v => ?_⟩
      · generalize LL.map D.int = DLL at *
        generalize HH.map D.int = DHH at *
        generalize La.map D.int = DA at *
        generalize Ha.map D.int = DB at *
        simp [startS, h1, isNonD, lenD_tab, hn', lim, hA, hB, heq, hmx, hmn, m2, c32, s64]
      · rw [pif, ← le_fdiv, ← lt_fdiv]
        exact ⟨fun h => ⟨h.1 _ x1, h.2 _ y1⟩, fun h => ⟨fun l hl => by have := x2 l hl; omega, fun l hl => by have := y2 l hl; omega⟩⟩
  · right
    refine ⟨fun h => g (hs.mpr h), ?_⟩
    unfold G_pair_range runF m_pair_range
    simp [startS, h1, isNonD]
end PW
/-! PL12: filled. -/
namespace PW
open DL MA
theorem ent_put {T : Tab} {i p : Nat} {v : Int} (hi : i < T.length) (hp : p < (T.getD i []).length) {a b : Nat} {x : Int} (h : ent (putT T i p (some v)) a b = some x) : ((a = i ∧ b = i + p + 1) ∨ (b = i ∧ a = i + p + 1)) ∧ x = v ∨ ent T a b = some x := by
  rw [ent_pl] at h ⊢
  rw [putT_pl hi hp, putT_pl hi hp] at h
  by_cases c : a < b
  · rw [if_pos c] at h ⊢
    by_cases d : i = a ∧ p = b - a - 1
    · rw [if_pos d] at h
      cases h
      exact .inl ⟨.inl (by omega), rfl⟩
    · rw [if_neg d] at h
      exact .inr h
  · rw [if_neg c] at h ⊢
    by_cases c2 : b < a
    · rw [if_pos c2] at h ⊢
      by_cases d : i = b ∧ p = a - b - 1
      · rw [if_pos d] at h
        cases h
        exact .inl ⟨.inr (by omega), rfl⟩
      · rw [if_neg d] at h
        exact .inr h
    · rw [if_neg c2] at h
      cases h
theorem sol_put {T : Tab} {i p n : Nat} {v : Int} (hi : i < T.length) (hp : p < (T.getD i []).length) (h : Has n (ent T) i (i + p + 1) v) : Sol n (ent (putT T i p (some v))) := by
  obtain ⟨U, w, f, h1, h2⟩ := h
  refine ⟨U, w, f.1, fun a b x ha hb e => ?_⟩
  rcases ent_put hi hp e with ⟨c, rfl⟩ | e
  · rcases c with ⟨rfl, rfl⟩ | ⟨rfl, rfl⟩
    · exact ⟨h1, h2⟩
    · constructor <;> omega
  · exact f.2 a b x ha hb e
theorem has_some {n : Nat} {E : Fn} (h : Sol n E) (i j : Nat) : ∃ v, Has n E i j v := by
  obtain ⟨U, w, f⟩ := h
  obtain ⟨a, b⟩ := fdiv_bounds (x := w i + w j) f.1
  exact ⟨(w i + w j).fdiv U, U, w, f, a, b⟩
/-- T' is T with more known -/
structure Ext (T T' : Tab) : Prop where
  len : T'.length = T.length
  shp : Shp T'
  keep : ∀ i j x, pl T i j = some x → pl T' i j = some x
theorem Ext.put {T T' : Tab} (e : Ext T T') {i p : Nat} {v : Int} (hi : i < T'.length) (hp : p < (T'.getD i []).length) (hn : pl T' i p = none) : Ext T (putT T' i p (some v)) := by
  refine ⟨putT_len.trans e.len, putT_shp e.shp hi, fun k l x h => ?_⟩
  rw [putT_pl hi hp]
  have := e.keep k l x h
  split
  · rename_i c
    obtain ⟨rfl, rfl⟩ := c
    rw [hn] at this
    cases this
  · exact this
theorem filled_b0 {T' : Tab} {i p n : Nat} {s0 s4 s5 s6 : Slot} (hT : Shp T') (hn : n = T'.length + 1) (h12 : n ≤ 12) (hi : i < T'.length) (hp : p < (T'.getD i []).length) (hs : Sol n (ent T')) :
    ∃ T2 x y, ex (phi [G_bounds, G_pair_range]) cs b_filled_0 [s0, .rows (rowsOf T'), .val (.int i), .val (.int p), s4, s5, s6] = some (.nx [s0, .rows (rowsOf T2), .val (.int i), .val (.int p), s4, x, y]) ∧ Sol n (ent T2) ∧ (∃ v, pl T2 i p = some v) ∧ (T2 = T' ∨ (pl T' i p = none ∧ ∃ v, T2 = putT T' i p (some v))) := by
  have hr := hT.2 i hi
  have q1 := rows_ix hi
  have q2 := rowl_ix hp
  have q3 := rowsOf_at hi
  have q5 := ixN_nat hi
  have q6 := ixN_nat hp
  have q7 : ((T'.getD i []).map oD).length = (T'.getD i []).length := List.length_map oD
  have q8 : ∀ v : Int, (rowsOf T').set i (((T'.getD i []).map oD).set p (.int v)) = rowsOf (putT T' i p (some v)) := fun v => rowsOf_put (v := some v) hi
  have hput : ∀ v : Int, pl (putT T' i p (some v)) i p = some v := fun v => by rw [putT_pl hi hp, if_pos ⟨rfl, rfl⟩]
  have hsol : ∀ v : Int, Has n (ent T') i (i + p + 1) v → Sol n (ent (putT T' i p (some v))) := fun v h => sol_put hi hp h
  have hpr := pair_range_ok hT (by omega) (i := i) (j := i + p + 1) (by omega) (by omega)
  rw [← hn] at hpr
  have hcast : ((i + p + 1 : Nat) : Int) = (i : Int) + p + 1 := by omega
  rw [hcast] at hpr
  cases hpl : pl T' i p with
  | some v =>
    rw [hpl] at q2
    refine ⟨T', s5, s6, ?_, hs, ⟨v, hpl⟩, .inl rfl⟩
    generalize ((T'.getD i []).map oD) = L at *
    unfold b_filled_0
    simp [q1, q2, isNonD]
  | none =>
    rw [hpl] at q2
    have c1 : ∀ (ρ : Env), ρ[1]? = some (some (.lst ((rowsOf T').map D.lst))) → 7 ≤ ρ.length → ev (phi [G_bounds, G_pair_range]) cs (.comp [4] [4] false (.var 1) (.bl true) (.blt .toT (.cons (.var 4) .nil))) ρ = some (.lst (T'.map rowD)) := by
      intro ρ h2 hlen2
      refine comp_map (g := fun r : List (Option Int) => D.lst (r.map oD)) (xs := T') ?_ (by omega) fun r hr => ?_
      · rw [ev_var, h2]
        show itemsO (some (.lst ((T'.map fun r => r.map oD).map D.lst))) = _
        rw [List.map_map]
        rfl
      · simp [List.getElem?_set, show 4 < ρ.length by omega, toTD, rowD]
    have c2 := toTD_rows T'
    generalize ((T'.getD i []).map oD) = L at *
    generalize (T'.getD i []).length = M at *
    generalize T'.map rowD = R at *
    rcases hpr with ⟨_, ⟨h1, h2⟩ | ⟨lo, hi', h1, h2⟩⟩ | ⟨h, _⟩
    · refine ⟨putT T' i p (some 0), .val .non, .val .non, ?_, hsol 0 (h2 0), ⟨0, hput 0⟩, .inr ⟨rfl, 0, rfl⟩⟩
      rw [← q8]
      unfold b_filled_0
      simp [q1, q2, q3, q5, q6, q7, rowsOf_len, isNonD, unpS, setAllS, nxS, c1, c2, h1, setRS]
    · obtain ⟨v0, hv0⟩ := has_some hs i (i + p + 1)
      have := (h2 v0).mp hv0
      refine ⟨putT T' i p (some lo), .val (.int lo), .val (.int hi'), ?_, hsol lo ((h2 lo).mpr ⟨Int.le_refl _, by omega⟩), ⟨lo, hput lo⟩, .inr ⟨rfl, lo, rfl⟩⟩
      rw [← q8]
      unfold b_filled_0
      simp [q1, q2, q3, q5, q6, q7, rowsOf_len, isNonD, unpS, setAllS, nxS, c1, c2, h1, setRS]
    · exact absurd hs h
theorem filled_b1 {T T' : Tab} {i n : Nat} {s0 s3 s4 s5 s6 : Slot} (he : Ext T T') (hn : n = T'.length + 1) (h12 : n ≤ 12) (hi : i < T'.length) (hs : Sol n (ent T')) :
    ∃ T2 z x y, ex (phi [G_bounds, G_pair_range]) cs b_filled_1 [s0, .rows (rowsOf T'), .val (.int i), s3, s4, s5, s6] = some (.nx [s0, .rows (rowsOf T2), .val (.int i), z, s4, x, y]) ∧ Sol n (ent T2) ∧ Ext T T2 ∧ (∀ p, p < (T2.getD i []).length → ∃ v, pl T2 i p = some v) ∧ ∀ k l x, pl T' k l = some x → pl T2 k l = some x := by
  obtain ⟨M, hM⟩ : ∃ M, M = (T'.getD i []).length := ⟨_, rfl⟩
  obtain ⟨st, h1, T2, z, x, y, e, g1, g2, g3, g4, g5⟩ := loop_rng (Φ := phi [G_bounds, G_pair_range]) (cs := cs) (body := b_filled_0) (j := 3) (a := 0) (b := M) (st := [s0, .rows (rowsOf T'), .val (.int i), s3, s4, s5, s6]) (Nat.zero_le _)
    (fun p st => ∃ T2 z x y, st = [s0, .rows (rowsOf T2), .val (.int i), z, s4, x, y] ∧ Sol n (ent T2) ∧ Ext T T2 ∧ (T2.getD i []).length = M ∧ (∀ k l x, pl T' k l = some x → pl T2 k l = some x) ∧ ∀ q, q < p → ∃ v, pl T2 i q = some v) ⟨T', s3, s5, s6, rfl, hs, he, hM.symm, fun k l x h => h, fun q hq => by omega⟩ (fun p st ⟨T2, z, x, y, e, _⟩ => by rw [e]; exact (by decide : 3 < 7)) fun p _ hp st ⟨T2, z, x, y, e, g1, g2, g3, g4, g5⟩ => by
      subst e
      have hl := g2.len.trans he.len.symm
      obtain ⟨T3, x', y', a1, a2, a3, a4⟩ := filled_b0 (T' := T2) (i := i) (p := p) (n := n) (s0 := s0) (s4 := s4) (s5 := x) (s6 := y) g2.shp (by omega) h12 (by omega) (by omega) g1
      rcases a4 with rfl | ⟨hnone, v, rfl⟩
      · refine ⟨_, a1, T3, _, x', y', rfl, a2, g2, g3, g4, fun q hq => ?_⟩
        by_cases c : q = p
        · rw [c]; exact a3
        · exact g5 q (by omega)
      · refine ⟨_, a1, _, _, x', y', rfl, a2, g2.put (by omega) (by omega) hnone, by rw [putT_row (by omega)]; exact g3, fun k l x h => ?_, fun q hq => ?_⟩
        · have := g4 k l x h
          rw [putT_pl (by omega) (by omega)]
          split
          · rename_i c
            obtain ⟨rfl, rfl⟩ := c
            rw [hnone] at this
            cases this
          · exact this
        · by_cases c : q = p
          · rw [c]; exact a3
          · obtain ⟨w, hw⟩ := g5 q (by omega)
            refine ⟨w, ?_⟩
            rw [putT_pl (by omega) (by omega), if_neg (fun z => c z.2.symm)]
            exact hw
  subst e
  refine ⟨T2, z, x, y, ?_, g1, g2, fun p hp => g5 p (by omega), g4⟩
  have r2 : r62 (M : Int) = true := by
    have := he.shp.2 i hi
    exact r62_of (by omega) (by omega)
  have q1 := rows_ix hi
  have q7 : ((T'.getD i []).map oD).length = M := by rw [List.length_map]; exact hM.symm
  rw [show ((0 : Nat) : Int) = 0 from rfl] at h1
  generalize ((T'.getD i []).map oD) = L at *
  unfold b_filled_1
  simp [q1, q7, r2, h1]
theorem filled_ok {T : Tab} (hT : Shp T) (h12 : T.length + 1 ≤ 12) :
    (Sol (T.length + 1) (ent T) ∧ ∃ T2, G_filled [tabD T] = some (tabD T2) ∧ Ext T T2 ∧ Sol (T.length + 1) (ent T2) ∧ Whl T2) ∨ (¬ Sol (T.length + 1) (ent T) ∧ G_filled [tabD T] = some .non) := by
  have hs := good_iff_sol (n := T.length + 1) (E := ent T) (by omega) (ent_symm T)
  rcases bounds_eq hT h12 with ⟨g, m, h1, hr⟩ | ⟨g, h1⟩
  · left
    refine ⟨hs.mp g, ?_⟩
    obtain ⟨n, hn⟩ : ∃ n, n = T.length + 1 := ⟨_, rfl⟩
    obtain ⟨st, h2, T2, w, z, x, y, e, g1, g2, g3⟩ := loop_rng (Φ := phi [G_bounds, G_pair_range]) (cs := cs) (body := b_filled_1) (j := 2) (a := 0) (b := T.length) (st := [.val (tabD T), .rows (rowsOf T), .und, .und, .und, .und, .und]) (Nat.zero_le _)
      (fun i st => ∃ T2 w z x y, st = [.val (tabD T), .rows (rowsOf T2), w, z, .und, x, y] ∧ Sol n (ent T2) ∧ Ext T T2 ∧ ∀ k, k < i → ∀ p, p < (T2.getD k []).length → ∃ v, pl T2 k p = some v) ⟨T, _, _, _, _, rfl, by rw [hn]; exact hs.mp g, ⟨rfl, hT, fun _ _ _ h => h⟩, fun k hk => by omega⟩ (fun p st ⟨T2, w, z, x, y, e, _⟩ => by rw [e]; exact (by decide : 2 < 7)) fun i _ hi st ⟨T2, w, z, x, y, e, g1, g2, g3⟩ => by
        subst e
        have hl := g2.len
        obtain ⟨T3, z', x', y', a1, a2, a3, a4, a5⟩ := filled_b1 (T := T) (T' := T2) (i := i) (n := n) (s0 := .val (tabD T)) (s3 := z) (s4 := .und) (s5 := x) (s6 := y) g2 (by omega) (by omega) (by omega) g1
        refine ⟨_, a1, T3, _, z', x', y', rfl, a2, a3, fun k hk p hp => ?_⟩
        by_cases c : k = i
        · subst c
          exact a4 p hp
        · have hlen : (T3.getD k []).length = (T2.getD k []).length := by
            rw [a3.shp.2 k (by have := a3.len; omega), g2.shp.2 k (by omega), a3.len, g2.len]
          obtain ⟨v, hv⟩ := g3 k (by omega) p (by omega)
          exact ⟨v, a5 k p v hv⟩
    subst e
    refine ⟨T2, ?_, g2, by rw [← hn]; exact g1, fun a b hab ha hb => ?_⟩
    · have hown : ex (phi [G_bounds, G_pair_range]) cs (.ownR 1 [4] 4 (.var 0)) [.val (tabD T), .und, .und, .und, .und, .und, .und] = some (.nx [.val (tabD T), .rows (rowsOf T), .und, .und, .und, .und, .und]) := by
        show (if 4 < 7 then setS _ 1 (match itemsO (some (tabD T)) with | some ds => if ds.length ≤ 4096 then (match rowsD ds with | some dss => some (Slot.rows dss) | none => none) else none | none => none) else none) = _
        rw [if_pos (by decide)]
        show setS _ 1 (if (T.map rowD).length ≤ 4096 then (match rowsD (T.map rowD) with | some dss => some (Slot.rows dss) | none => none) else none) = _
        rw [if_pos (by rw [List.length_map]; have := hT.1; omega), rowsD_tab]
        rfl
      have c1 : ∀ (ρ : Env), ρ[1]? = some (some (.lst ((rowsOf T2).map D.lst))) → 7 ≤ ρ.length → ev (phi [G_bounds, G_pair_range]) cs (.comp [4] [4] false (.var 1) (.bl true) (.blt .toT (.cons (.var 4) .nil))) ρ = some (.lst (T2.map rowD)) := by
        intro ρ h2 hlen2
        refine comp_map (g := fun r : List (Option Int) => D.lst (r.map oD)) (xs := T2) ?_ (by have := g2.len; have := hT.1; omega) fun r hr => ?_
        · rw [ev_var, h2]
          show itemsO (some (.lst ((T2.map fun r => r.map oD).map D.lst))) = _
          rw [List.map_map]
          rfl
        · simp [List.getElem?_set, show 4 < ρ.length by omega, toTD, rowD]
      have c2 := toTD_rows T2
      generalize T2.map rowD = R at *
      have r2 : r62 (T.length : Int) = true := r62_of (by omega) (by omega)
      rw [show ((0 : Nat) : Int) = 0 from rfl] at h2
      unfold G_filled runF m_filled
      simp [startS, h1, isNonD, hown, rowsOf_len, r2, h2, c1, c2]
    · have hl := g2.len
      rw [hl] at ha hb
      rw [ent_pl]
      by_cases c : a < b
      · rw [if_pos c]
        exact g3 a (by omega) _ (by have := g2.shp.2 a (by omega); omega)
      · rw [if_neg c, if_pos (by omega)]
        exact g3 b (by omega) _ (by have := g2.shp.2 b (by omega); omega)
  · right
    refine ⟨fun h => g (hs.mpr h), ?_⟩
    unfold G_filled runF m_filled
    simp [startS, h1, isNonD]
end PW
/-! PL13: hidden tables. -/
namespace PW
open DL MA
/-- T' is T with some entries hidden -/
structure Hid (T T' : Tab) : Prop where
  len : T'.length = T.length
  shp : Shp T'
  sub : ∀ i j x, pl T' i j = some x → pl T i j = some x
theorem ent_sub {T T' : Tab} (h : ∀ i j x, pl T' i j = some x → pl T i j = some x) {a b : Nat} {x : Int} (e : ent T' a b = some x) : ent T a b = some x := by
  rw [ent_pl] at e ⊢
  split at e
  · rw [if_pos (by assumption)]
    exact h _ _ _ e
  · split at e
    · rw [if_neg (by omega), if_pos (by omega)]
      exact h _ _ _ e
    · cases e
theorem sol_sub {n : Nat} {E E' : MA.Fn} (h : ∀ a b x, E' a b = some x → E a b = some x) (s : Sol n E) : Sol n E' := by
  obtain ⟨U, w, f⟩ := s
  exact ⟨U, w, f.1, fun a b x ha hb e => f.2 a b x ha hb (h a b x e)⟩
def SubR (hs r : List (Option Int)) (t : Nat) : Prop := hs.length = t ∧ ∀ j x, hs.getD j none = some x → r.getD j none = some x
@[simp] theorem scalD_oD (o : Option Int) : scalD (oD o) = true := by cases o <;> rfl
theorem hidden_b0 {ds : List Int} {often : Int} {o : Option Int} {k : Nat} {line : List D} {s0 s3 s5 : Slot} (hl : 1 ≤ ds.length) (ho : 0 < often) (hll : line.length ≤ 2000) :
    ∃ o' : Option Int, (o' = none ∨ o' = o) ∧ ex (phi []) cs b__law_hidden_0 [s0, .val (.lst (ds.map D.int)), .val (.int often), s3, .val (.int k), s5, .lst line, .val (oD o)] = some (.nx [s0, .val (.lst (ds.map D.int)), .val (.int often), s3, .val (.int ((k + 1 : Nat) : Int)), s5, .lst (line ++ [oD o']), .val (oD o)]) := by
  obtain ⟨p, e1, hp⟩ := fmod_nat (x := (k : Int)) (n := ds.length) hl
  have d1 : L2.atI (ds.map D.int) (p : Int) = some (.int (dg ds p)) := dig_at hp
  have zl : ¬ ds = [] := fun z => by rw [z] at hl; exact absurd hl (by decide)
  have zo : ¬ often = 0 := by omega
  have hl' : line.length ≤ 100000 := by omega
  unfold b__law_hidden_0
  by_cases h : (dg ds p).fmod often = 0
  · refine ⟨none, .inl rfl, ?_⟩
    simp [e1, d1, zl, zo, h, appS, lim, hl']
  · refine ⟨o, .inr rfl, ?_⟩
    simp [e1, d1, zl, zo, h, appS, lim, hl']
theorem hidden_b1 {ds : List Int} {often : Int} {r : List (Option Int)} {k : Nat} {rows : List D} {s0 s6 s7 : Slot} (hl : 1 ≤ ds.length) (ho : 0 < often) (hr : r.length ≤ 1000) (hrows : rows.length ≤ 1000) :
    ∃ (hs : List (Option Int)) (k' : Nat) (x y : Slot), SubR hs r r.length ∧ ex (phi []) cs b__law_hidden_1 [s0, .val (.lst (ds.map D.int)), .val (.int often), .lst rows, .val (.int k), .val (rowD r), s6, s7] = some (.nx [s0, .val (.lst (ds.map D.int)), .val (.int often), .lst (rows ++ [rowD hs]), .val (.int k'), .val (rowD r), x, y]) := by
  obtain ⟨st, h1, hs, k', y, e, g1⟩ := loop_go (Φ := phi []) (cs := cs) (body := b__law_hidden_0) (j := 7) (ds := r.map oD) (st := [s0, .val (.lst (ds.map D.int)), .val (.int often), .lst rows, .val (.int k), .val (rowD r), .lst [], s7])
    (fun t st => ∃ (hs : List (Option Int)) (k' : Nat) (y : Slot), st = [s0, .val (.lst (ds.map D.int)), .val (.int often), .lst rows, .val (.int k'), .val (rowD r), .lst (hs.map oD), y] ∧ (t ≤ r.length → SubR hs r t)) ⟨[], k, s7, rfl, fun _ => ⟨rfl, fun j x h => by simp at h⟩⟩ (fun t st ⟨hs, k', y, e, _⟩ => by rw [e]; exact (by decide : 7 < 8)) fun t ht st ⟨hs, k', y, e, g⟩ => by
      subst e
      have ht' : t < r.length := by rw [List.length_map] at ht; exact ht
      obtain ⟨q1, q2⟩ := g (by omega)
      obtain ⟨o', ho', hb⟩ := hidden_b0 (ds := ds) (often := often) (o := r[t]) (k := k') (line := hs.map oD) (s0 := s0) (s3 := .lst rows) (s5 := .val (rowD r)) hl ho (by rw [List.length_map]; omega)
      refine ⟨_, by rw [List.getElem_map]; exact hb, hs ++ [o'], k' + 1, _, by rw [List.map_append]; rfl, fun _ => ⟨by rw [List.length_append, q1]; rfl, fun j x h => ?_⟩⟩
      by_cases c : j < t
      · rw [List.getD_eq_getElem?_getD, List.getElem?_append_left (by omega), ← List.getD_eq_getElem?_getD] at h
        exact q2 j x h
      · by_cases c2 : j = t
        · rw [List.getD_eq_getElem?_getD, c2, ← q1, List.getElem?_concat_length] at h
          have h : o' = some x := h
          rcases ho' with z | z
          · rw [z] at h; cases h
          · rw [c2, List.getD_eq_getElem?_getD, List.getElem?_eq_getElem ht', ← h, z]
            rfl
        · rw [List.getD_eq_getElem?_getD, List.getElem?_eq_none (by rw [List.length_append, List.length_singleton]; omega)] at h
          cases h
  subst e
  rw [List.length_map] at g1
  refine ⟨hs, k', .lst (hs.map oD), y, g1 (Nat.le_refl _), ?_⟩
  have hrd : toTD [.lst (hs.map oD)] = some (rowD hs) := rfl
  have hrl : rows.length ≤ 100000 := by omega
  have hsc : scalD (rowD hs) = false := rfl
  have hkp := keepD_row hs
  have hit : itemsO (some (rowD r)) = some (r.map oD) := rfl
  generalize rowD hs = R at *
  generalize hs.map oD = V at *
  generalize rowD r = RR at *
  unfold b__law_hidden_1
  simp [lim, hit, h1, hrd, hsc, hkp, appS, hrl]
theorem hidden_ok {T : Tab} {ds : List Int} {often : Int} (hT : Shp T) (hl : 1 ≤ ds.length) (ho : 0 < often) : ∃ T', G__law_hidden [tabD T, .lst (ds.map D.int), .int often] = some (tabD T') ∧ Hid T T' := by
  have h1000 := hT.1
  obtain ⟨st, h1, T', k', x, y, z, e, g1, g2⟩ := loop_go (Φ := phi []) (cs := cs) (body := b__law_hidden_1) (j := 5) (ds := T.map rowD) (st := [.val (tabD T), .val (.lst (ds.map D.int)), .val (.int often), .lst [], .val (.int 0), .und, .und, .und])
    (fun t st => ∃ (T' : Tab) (k' : Nat) (x y z : Slot), st = [.val (tabD T), .val (.lst (ds.map D.int)), .val (.int often), .lst (T'.map rowD), .val (.int k'), x, y, z] ∧ T'.length = t ∧ (t ≤ T.length → ∀ i, i < t → SubR (T'.getD i []) (T.getD i []) (T.getD i []).length)) ⟨[], 0, _, _, _, rfl, rfl, fun _ i hi => by omega⟩ (fun t st ⟨T', k', x, y, z, e, _⟩ => by rw [e]; exact (by decide : 5 < 8)) fun t ht st ⟨T', k', x, y, z, e, g1, g2⟩ => by
      subst e
      have ht' : t < T.length := by rw [List.length_map] at ht; exact ht
      have hrow : T.getD t [] = T[t] := by rw [List.getD_eq_getElem?_getD, List.getElem?_eq_getElem ht']; rfl
      have hrl := hT.2 t ht'
      rw [hrow] at hrl
      obtain ⟨hs, k2, x', y', q1, q2⟩ := hidden_b1 (ds := ds) (often := often) (r := T[t]) (k := k') (rows := T'.map rowD) (s0 := .val (tabD T)) (s6 := y) (s7 := z) hl ho (by omega) (by rw [List.length_map]; omega)
      refine ⟨_, by rw [List.getElem_map]; exact q2, T' ++ [hs], k2, _, x', y', by rw [List.map_append]; rfl, by rw [List.length_append, g1]; rfl, fun _ i hi => ?_⟩
      by_cases c : i < t
      · rw [List.getD_eq_getElem?_getD (l := T' ++ [hs]), List.getElem?_append_left (by omega), ← List.getD_eq_getElem?_getD]
        exact g2 (by omega) i c
      · have c2 : i = t := by omega
        subst c2
        rw [List.getD_eq_getElem?_getD (l := T' ++ [hs]), ← g1, List.getElem?_concat_length, g1, hrow]
        exact q1
  subst e
  rw [List.length_map] at g1 g2
  have g2 := g2 (Nat.le_refl _)
  refine ⟨T', ?_, g1, ⟨by omega, fun i hi => ?_⟩, fun i j x h => ?_⟩
  · have hit : itemsO (some (tabD T)) = some (T.map rowD) := rfl
    have c2 := toTD_rows T'
    generalize T'.map rowD = R at *
    generalize T.map rowD = RR at *
    unfold G__law_hidden runF m__law_hidden
    simp [startS, lim, hit, h1, c2]
  · rw [(g2 i (by omega)).1, hT.2 i (by omega), g1]
  · unfold pl at h ⊢
    by_cases c : i < T.length
    · exact (g2 i c).2 j x h
    · have e : T'.getD i [] = [] := by
        rw [List.getD_eq_getElem?_getD, List.getElem?_eq_none (by omega)]
        rfl
      rw [e] at h
      simp at h
end PW
/-! PL14: _law_right. -/
namespace PW
open DL MA
section
variable {Φ : Nat → List D → Option D} {cs : Nat → Int} {ρ : Env} {st : State} {body : DL.S}
theorem comp_filter2 {α : Type} {vs : List Nat} {j1 j2 : Nat} {it t e : E} {xs : List α} {g1 g2 h : α → D} {p : α → Bool} (hi : itemsO (ev Φ cs it ρ) = some (xs.map fun x => .tup [g1 x, g2 x])) (hl : xs.length ≤ 4096) (ht : ∀ x, x ∈ xs → ev Φ cs t (((wipeE ρ vs).set j1 (some (g1 x))).set j2 (some (g2 x))) = some (.bl (p x))) (he : ∀ x, x ∈ xs → p x = true → ev Φ cs e (((wipeE ρ vs).set j1 (some (g1 x))).set j2 (some (g2 x))) = some (h x)) :
    ev Φ cs (.comp vs [j1, j2] true it t e) ρ = some (.lst ((xs.filter p).map h)) := by
  rw [ev_comp, hi, capI_s (by rw [List.length_map]; exact hl), onI_s, compL_filter (g := fun x => .tup [g1 x, g2 x]) (h := h) (p := p) fun x hx => ?_, capL_s]
  show testD (ev Φ cs t (((wipeE ρ vs).set j1 (some (g1 x))).set j2 (some (g2 x)))) (ev Φ cs e (((wipeE ρ vs).set j1 (some (g1 x))).set j2 (some (g2 x)))) = _
  rw [ht x hx]
  cases hp : p x with
  | true =>
    rw [he x hx hp]
    rfl
  | false => rfl
theorem loop_goP {tg : List Nat} {ds : List D} (I : Nat → State → Prop) (h0 : I 0 st) (step : ∀ i (h : i < ds.length) st, I i st → ∃ st1 st', bindS st tg true ds[i] = some st1 ∧ ex Φ cs body st1 = some (.nx st') ∧ I (i + 1) st') :
    ∃ st', loop Φ cs tg true body ds st = some (.nx st') ∧ I ds.length st' := forL_go I h0 fun i h st hi => by
  obtain ⟨st1, st', h1, h2, h3⟩ := step i h st hi
  exact ⟨st', by rw [h1]; exact h2, h3⟩
end
theorem zipL_map {α β : Type} (f : α → D) (g : β → D) : ∀ (xs : List α) (ys : List β), zipL (xs.map f) (ys.map g) = (xs.zip ys).map fun p => .tup [f p.1, g p.2]
  | [], _ => rfl
  | _ :: _, [] => rfl
  | x :: xs, y :: ys => by
    have := zipL_map f g xs ys
    show D.tup [f x, g y] :: zipL (xs.map f) (ys.map g) = _
    rw [this]
    rfl
theorem right_b0 {r r2 : List (Option Int)} {s0 s1 s4 s5 : Slot} (hl : r2.length = r.length) (hl2 : r.length ≤ 1000) (hk : ∀ j x, r.getD j none = some x → r2.getD j none = some x) (hw : ∀ j, j < r2.length → ∃ x, r2.getD j none = some x) :
    ex (phi [G__law_fours]) cs b__law_right_0 [s0, s1, .val (rowD r), .val (rowD r2), s4, s5] = some (.nx [s0, s1, .val (rowD r), .val (rowD r2), s4, s5]) := by
  have i1 : isiD (rowD r2) "tuple" = some (.bl true) := rfl
  have i2 : lenD [rowD r] = some (.int (r.length : Int)) := by
    show some (D.int ((r.map oD).length : Int)) = _
    rw [List.length_map]
  have i3 : lenD [rowD r2] = some (.int (r.length : Int)) := by
    show some (D.int ((r2.map oD).length : Int)) = _
    rw [List.length_map, hl]
  have zm : ∀ p, p ∈ r.zip r2 → p.1 = none ∨ p.1 = p.2 := fun p hp => by
    obtain ⟨j, hj, e⟩ := List.getElem_of_mem hp
    rw [List.length_zip] at hj
    rw [List.getElem_zip] at e
    cases h : p.1 with
    | none => exact .inl rfl
    | some x =>
      right
      have e1 : r[j]'(by omega) = some x := by rw [← h, ← e]
      have := hk j x (by rw [List.getD_eq_getElem?_getD, List.getElem?_eq_getElem (by omega), e1]; rfl)
      rw [List.getD_eq_getElem?_getD, List.getElem?_eq_getElem (by omega)] at this
      have this : r2[j]'(by omega) = some x := this
      rw [← this, ← e]
  have c1 : ∀ ρ : Env, ρ[2]? = some (some (rowD r)) → ρ[3]? = some (some (rowD r2)) → 6 ≤ ρ.length → ev (phi [G__law_fours]) cs (.comp [4, 5] [4, 5] true (.zp (.var 2) (.var 3)) (.an (.cmp .isn (.var 4) .non) (.cmp .ne (.var 4) (.var 5))) (.int 1)) ρ = some (.lst []) := by
    intro ρ h2 h3 hlen
    have := comp_filter2 (Φ := phi [G__law_fours]) (cs := cs) (ρ := ρ) (vs := [4, 5]) (j1 := 4) (j2 := 5) (it := .zp (.var 2) (.var 3)) (t := .an (.cmp .isn (.var 4) .non) (.cmp .ne (.var 4) (.var 5))) (e := .int 1) (xs := r.zip r2) (g1 := fun p => oD p.1) (g2 := fun p => oD p.2) (h := fun _ => .int 1) (p := fun _ => false) (by
        rw [ev_zp, ev_var, ev_var, h2, h3]
        show itemsO (some (.lst (zipL (r.map oD) (r2.map oD)))) = _
        rw [zipL_map]
        rfl) (by rw [List.length_zip]; omega) (fun p hp => by
        have hq := zm p hp
        cases h : p.1 with
        | none => simp [List.getElem?_set, show 4 < ρ.length by omega, show 5 < ρ.length by omega, isNonD, h]
        | some x =>
          rw [h] at hq
          have hq : p.2 = some x := by
            rcases hq with hq | hq
            · cases hq
            · exact hq.symm
          simp [List.getElem?_set, show 4 < ρ.length by omega, show 5 < ρ.length by omega, isNonD, h, hq]) (fun _ _ h => by cases h)
    rw [this]
    simp
  have c2 : ∀ ρ : Env, ρ[3]? = some (some (rowD r2)) → 6 ≤ ρ.length → ev (phi [G__law_fours]) cs (.comp [5] [5] false (.var 3) (.orr (.nt (.isi (.var 5) "int")) (.isi (.var 5) "bool")) (.var 5)) ρ = some (.lst []) := by
    intro ρ h3 hlen
    have := comp_filter (Φ := phi [G__law_fours]) (cs := cs) (ρ := ρ) (vs := [5]) (j := 5) (it := .var 3) (t := .orr (.nt (.isi (.var 5) "int")) (.isi (.var 5) "bool")) (e := .var 5) (xs := r2) (g := oD) (h := fun _ => .non) (p := fun _ => false) (by rw [ev_var, h3]; rfl) (by omega) (fun o ho => by
      obtain ⟨j, hj, e⟩ := List.getElem_of_mem ho
      obtain ⟨x, hx⟩ := hw j hj
      rw [List.getD_eq_getElem?_getD, List.getElem?_eq_getElem hj] at hx
      have hx : r2[j] = some x := hx
      rw [hx] at e
      rw [← e]
      have j1 : isiD (.int x) "int" = some (.bl true) := rfl
      have j2 : isiD (.int x) "bool" = some (.bl false) := rfl
      simp [List.getElem?_set, show 5 < ρ.length by omega, j1, j2]) (fun _ _ h => by cases h)
    rw [this]
    simp
  have n0 : neD (.lst []) (.lst []) = some (.bl false) := rfl
  generalize rowD r = R at *
  generalize rowD r2 = R2 at *
  unfold b__law_right_0
  simp [i1, i2, i3, c1, c2, n0, lim]
theorem right_ok {T T2 : Tab} (hT : Shp T) (he : Ext T T2) (hw : Whl T2) (h10 : T.length + 1 ≤ 10) (hb : ∀ q, ¬ Bad T2 q) : G__law_right [tabD T, tabD T2] = some (.bl true) := by
  have hlen := he.len
  have h1000 := hT.1
  obtain ⟨xs, hf, hfm⟩ := fours_ok he.shp hw (by omega)
  have hxs : xs = [] := by
    cases xs with
    | nil => rfl
    | cons q xs => exact absurd ((hfm q).mp List.mem_cons_self) (hb q)
  subst hxs
  obtain ⟨st, h1, x, y, e⟩ := loop_goP (Φ := phi [G__law_fours]) (cs := cs) (body := b__law_right_0) (tg := [2, 3]) (ds := (T.zip T2).map fun p => .tup [rowD p.1, rowD p.2]) (st := [.val (tabD T), .val (tabD T2), .und, .und, .und, .und])
    (fun i st => ∃ x y, st = [.val (tabD T), .val (tabD T2), x, y, .und, .und]) ⟨_, _, rfl⟩ fun i hi st ⟨x, y, e⟩ => by
      subst e
      rw [List.length_map, List.length_zip] at hi
      have hi1 : i < T.length := by omega
      have hi2 : i < T2.length := by omega
      have g1 : T.getD i [] = T[i] := by rw [List.getD_eq_getElem?_getD, List.getElem?_eq_getElem hi1]; rfl
      have g2 : T2.getD i [] = T2[i] := by rw [List.getD_eq_getElem?_getD, List.getElem?_eq_getElem hi2]; rfl
      have hr1 := hT.2 i hi1
      have hr2 := he.shp.2 i hi2
      rw [g1] at hr1
      rw [g2] at hr2
      refine ⟨[.val (tabD T), .val (tabD T2), .val (rowD T[i]), .val (rowD T2[i]), .und, .und], _, by rw [List.getElem_map, List.getElem_zip]; rfl, right_b0 (by omega) (by omega) (fun j x h => ?_) (fun j hj => ?_), _, _, rfl⟩
      · have := he.keep i j x (by unfold pl; rw [g1]; exact h)
        unfold pl at this
        rw [g2] at this
        exact this
      · obtain ⟨v, hv⟩ := hw i (i + j + 1) (by omega) (by omega) (by omega)
        rw [ent_pl, if_pos (by omega), show i + j + 1 - i - 1 = j by omega] at hv
        unfold pl at hv
        rw [g2] at hv
        exact ⟨v, hv⟩
  subst e
  have i1 : isiD (tabD T2) "tuple" = some (.bl true) := rfl
  have l1 := lenD_tab T
  have l2 := lenD_tab T2
  rw [hlen] at l2
  have hz : zpD (tabD T) (tabD T2) = some (.lst ((T.zip T2).map fun p => .tup [rowD p.1, rowD p.2])) := by
    show some (D.lst (zipL (T.map rowD) (T2.map rowD))) = _
    rw [zipL_map]
  have e0 : eqD (.lst []) (.lst []) = some (.bl true) := rfl
  simp only [List.map_nil] at hf
  generalize ((T.zip T2).map fun p => D.tup [rowD p.1, rowD p.2]) = Z at *
  generalize tabD T = A at *
  generalize tabD T2 = B at *
  unfold G__law_right runF m__law_right
  simp [startS, i1, l1, l2, hz, h1, hf, e0, lim]
end PW
/-! MG: upper bounds are never whole (no program in sight). -/
namespace MA
/-- rounding by ranks keeps strict floors, too -/
theorem round32s {N : Nat} (hN : N ≤ 32) {U : Int} (hU : 0 < U) (X : Nat → Int) : ∃ h : Nat → Int, ∀ u v, u < N → v < N → ∀ k : Int, (k * U ≤ X u - X v ↔ k * 32 ≤ h u - h v) ∧ (k * U < X u - X v → k * 32 < h u - h v) := by
  refine ⟨fun v => 32 * (X v / U) + (rnk N (fun u => X u % U) v : Int), fun u v hu hv k => ?_⟩
  have e1 := Int.mul_ediv_add_emod (X u) U
  have e2 := Int.mul_ediv_add_emod (X v) U
  have a1 := Int.emod_nonneg (X u) (show U ≠ 0 by omega)
  have a2 := Int.emod_nonneg (X v) (show U ≠ 0 by omega)
  have b1 := Int.emod_lt_of_pos (X u) hU
  have b2 := Int.emod_lt_of_pos (X v) hU
  have r1 := rnk_lt N (fun u => X u % U) hu
  have r2 := rnk_lt N (fun u => X u % U) hv
  show (k * U ≤ X u - X v ↔ k * 32 ≤ 32 * (X u / U) + (rnk N (fun u => X u % U) u : Int) - (32 * (X v / U) + (rnk N (fun u => X u % U) v : Int))) ∧ (k * U < X u - X v → k * 32 < 32 * (X u / U) + (rnk N (fun u => X u % U) u : Int) - (32 * (X v / U) + (rnk N (fun u => X u % U) v : Int)))
  have key : ∀ z : Int, U * z = z * U := fun z => Int.mul_comm _ _
  rw [key] at e1 e2
  generalize X u / U = qu at *
  generalize X v / U = qv at *
  have hd : X u - X v = (qu - qv) * U + (X u % U - X v % U) := by rw [Int.sub_mul]; omega
  rw [hd]
  by_cases c1 : k < qu - qv
  · have : (k + 1) * U ≤ (qu - qv) * U := Int.mul_le_mul_of_nonneg_right (by omega) (by omega)
    rw [Int.add_mul, Int.one_mul] at this
    refine ⟨⟨fun _ => by omega, fun _ => by omega⟩, fun _ => by omega⟩
  · by_cases c2 : k = qu - qv
    · rw [← c2]
      refine ⟨⟨fun h => ?_, fun h => ?_⟩, fun h => ?_⟩
      · have : X v % U ≤ X u % U := by omega
        have := rnk_mono N (fun u => X u % U) this
        omega
      · by_cases c : X u % U < X v % U
        · have := rnk_strict N (fun u => X u % U) hu c
          omega
        · omega
      · have : X v % U < X u % U := by omega
        have := rnk_strict N (fun u => X u % U) hv this
        omega
    · have : (qu - qv + 1) * U ≤ k * U := Int.mul_le_mul_of_nonneg_right (by omega) (by omega)
      rw [Int.add_mul, Int.one_mul] at this
      refine ⟨⟨fun h => by omega, fun h => by omega⟩, fun h => by omega⟩
theorem hts_of_fits {n : Nat} {E : Fn} (hn : 2 * n ≤ 32) {U : Int} {w : Nat → Int} (f : Fit n E U w) : ∃ h, Hts n E h ∧ ∀ i c, i < n → c < n → ∀ k : Int, (k * U ≤ w i + w c ↔ k * 32 ≤ h i - h (n + c)) ∧ (k * U < w i + w c → k * 32 < h i - h (n + c)) := by
  obtain ⟨hU, hf⟩ := f
  obtain ⟨h, hh⟩ := round32s hn hU fun v => if v < n then w v else - w (v - n)
  have key : ∀ i c, i < n → c < n → ∀ k : Int, (k * U ≤ w i + w c ↔ k * 32 ≤ h i - h (n + c)) ∧ (k * U < w i + w c → k * 32 < h i - h (n + c)) := fun i c hi hc k => by
    have := hh i (n + c) (by omega) (by omega) k
    rw [if_pos hi, if_neg (by omega), show n + c - n = c by omega] at this
    obtain ⟨q1, q2⟩ := this
    refine ⟨?_, fun z => q2 (by omega)⟩
    rw [← q1]
    constructor <;> intro _ <;> omega
  refine ⟨h, fun i c v hi hc e => ?_, key⟩
  have h1 := hf i c v hi hc e
  refine ⟨(key i c hi hc v).1.mp h1.1, ?_⟩
  by_cases q : (v + 1) * 32 ≤ h i - h (n + c)
  · have := (key i c hi hc (v + 1)).1.mpr q
    omega
  · omega
/-- all weights a little larger -/
theorem Fit.more {n : Nat} {E : Fn} {U : Int} {w : Nat → Int} (f : Fit n E U w) : Fit n E (3 * U) fun i => 3 * w i + 1 := by
  refine ⟨by have := f.1; omega, fun i c v hi hc e => ?_⟩
  have h := f.2 i c v hi hc e
  have e1 : v * (3 * U) = 3 * (v * U) := by rw [← Int.mul_assoc, Int.mul_comm v 3, Int.mul_assoc]
  have e2 : (v + 1) * (3 * U) = 3 * ((v + 1) * U) := by rw [← Int.mul_assoc, Int.mul_comm (v + 1) 3, Int.mul_assoc]
  rw [e1, e2]
  show 3 * (v * U) ≤ 3 * w i + 1 + (3 * w c + 1) ∧ 3 * w i + 1 + (3 * w c + 1) < 3 * ((v + 1) * U)
  omega
/-- the upper bound of a weight is no multiple of 32 -/
theorem upper_odd {n : Nat} {E : Fn} (hn : 2 * n ≤ 32) (g : Good0 n E) (sym : ∀ a b, E a b = E b a) {i : Nat} (hi : i < n) {b : Int} (e : GBn n E (n + i) i = some b) (v : Int) : -b ≠ v * 32 := by
  intro hb
  obtain ⟨h0, K, _, _, t, _⟩ := GB_tot g fun _ => 0
  have ht := t.high (v := n + i) (by omega)
  have hh := hts_ht ht
  have f := fit_of_hts sym hh
  have tb : tot (GBn n E) h0 K (n + i) i = b := by unfold tot; rw [show GBn n E (n + i) i = some b from e]
  have t0 := t.refl (n + i) (by omega)
  obtain ⟨h, h1, key⟩ := hts_of_fits hn f.more
  have q := (key i i hi hi v).2 (by
    have e1 : v * (3 * 64) = 6 * (v * 32) := by omega
    rw [e1]
    show 6 * (v * 32) < 3 * (-tot (GBn n E) h0 K (n + i) i - -tot (GBn n E) h0 K (n + i) (n + i)) + 1 + (3 * (-tot (GBn n E) h0 K (n + i) i - -tot (GBn n E) h0 K (n + i) (n + i)) + 1)
    rw [tb, t0]
    omega)
  have := rK_all h1 (2 * n) (2 * n) (n + i) i b e
  have : b ≤ h (n + i) - h i := this
  omega
end MA
/-! PL15: weight_range. -/
namespace PW
open DL MA
theorem fdiv32 {x v : Int} : (x < (v + 1) * 32 ↔ x.fdiv 32 ≤ v) ∧ (v * 32 ≤ x ↔ v ≤ x.fdiv 32) := by
  obtain ⟨a, b⟩ := fdiv_bounds (x := x) (u := 32) (by decide)
  constructor <;> constructor <;> intro h <;> omega
/-- what the pair's bounds are for a parcel with itself -/
theorem self_iff {n : Nat} {E : MA.Fn} (hn : 2 * n ≤ 32) (g : Good0 n E) (sym : ∀ a b, E a b = E b a) {i : Nat} (hi : i < n) (v : Int) :
    Has n E i i v ↔ (∀ a, GBn n E i (n + i) = some a → a < (v + 1) * 32) ∧ ∀ a, GBn n E (n + i) i = some a → v * 32 ≤ -a := by
  rw [pair_iff hn g sym hi hi v]
  unfold lowsP highsP
  cases e1 : GBn n E i (n + i) with
  | none =>
    cases e2 : GBn n E (n + i) i with
    | none => simp
    | some b => obtain ⟨a, e⟩ := GB_back g e2; rw [e1] at e; cases e
  | some a =>
    cases e2 : GBn n E (n + i) i with
    | none => obtain ⟨b, e⟩ := GB_back g e1; rw [e2] at e; cases e
    | some b =>
      constructor
      · rintro ⟨h1, h2⟩
        have := h1 (2 * a) (List.mem_append_left _ List.mem_cons_self)
        have := h2 (-(2 * b)) (List.mem_append_left _ List.mem_cons_self)
        exact ⟨fun x e => by cases e; omega, fun x e => by cases e; omega⟩
      · rintro ⟨h1, h2⟩
        have := h1 a rfl
        have := h2 b rfl
        refine ⟨fun l hl => ?_, fun l hl => ?_⟩
        · rcases List.mem_append.mp hl with hl | hl <;> rw [List.mem_singleton.mp hl] <;> omega
        · rcases List.mem_append.mp hl with hl | hl <;> rw [List.mem_singleton.mp hl] <;> omega
theorem weight_range_ok {T : Tab} (hT : Shp T) (h12 : T.length + 1 ≤ 12) {i : Nat} (hi : i < T.length + 1) :
    (Sol (T.length + 1) (ent T) ∧ ((G_weight_range [tabD T, .int i] = some (.tup [.non, .non]) ∧ ∀ v, Has (T.length + 1) (ent T) i i v) ∨
      ∃ lo hi, G_weight_range [tabD T, .int i] = some (.tup [.int lo, .int hi]) ∧ ∀ v, Has (T.length + 1) (ent T) i i v ↔ lo ≤ v ∧ v < hi)) ∨
    (¬ Sol (T.length + 1) (ent T) ∧ G_weight_range [tabD T, .int i] = some .non) := by
  have hs := good_iff_sol (n := T.length + 1) (E := ent T) (by omega) (ent_symm T)
  rcases bounds_eq hT h12 with ⟨g, m, h1, hr⟩ | ⟨g, h1⟩
  · left
    refine ⟨hs.mp g, ?_⟩
    have pif := fun v => self_iff (n := T.length + 1) (by omega) g (ent_symm T) hi v
    obtain ⟨n, hn⟩ : ∃ n, n = T.length + 1 := ⟨_, rfl⟩
    have hn' : (T.length : Int) + 1 = (n : Int) := by omega
    have c32 : cs 0 = 32 := rfl
    have s32 : small30 32 = true := by decide
    have k1 := hr i (n + i)
    have k2 := hr (n + i) i
    rw [show ((n + i : Nat) : Int) = (n : Int) + i by omega] at k1 k2
    have hGB : GBn (T.length + 1) (ent T) = GB T := rfl
    rw [hGB, ← hn] at pif
    rw [← hn]
    unfold G_weight_range runF m_weight_range
    cases e1 : GB T i (n + i) with
    | none =>
      have e2 : GB T (n + i) i = none := by
        cases e2 : GB T (n + i) i with
        | none => rfl
        | some b =>
          rw [hn] at e1 e2
          obtain ⟨a, e⟩ := GB_back g e2
          rw [show GB T i (T.length + 1 + i) = some a from e] at e1
          cases e1
      rw [e1] at k1
      rw [e2] at k2
      rw [e1, e2] at pif
      left
      refine ⟨?_, fun v => (pif v).mpr ⟨(fun a e => nomatch e), fun a e => nomatch e⟩⟩
      simp [startS, h1, isNonD, lenD_tab, hn', lim, k1, k2]
    | some a =>
      have e2 : ∃ b, GB T (n + i) i = some b := by
        rw [hn] at e1 ⊢
        exact GB_back g e1
      obtain ⟨b, e2⟩ := e2
      rw [e1] at k1
      rw [e2] at k2
      rw [e1, e2] at pif
      have hodd : -b ≠ (-(b.fdiv 32)) * 32 := by
        have e3 : GBn (T.length + 1) (ent T) (T.length + 1 + i) i = some b := by have q := e2; rw [hn] at q; exact q
        exact upper_odd (by omega) g (ent_symm T) hi e3 _
      have k1' : dlook m ((i : Int), (n : Int) + i) = some (-a) := k1
      have k2' : dlook m ((n : Int) + i, (i : Int)) = some (-b) := k2
      right
      refine ⟨a.fdiv 32, -(b.fdiv 32), ?_, fun v => ?_⟩
      · simp [startS, h1, isNonD, lenD_tab, hn', lim, k1', k2', c32, s32]
      · rw [pif]
        have q1 := (fdiv32 (x := a) (v := v)).1
        obtain ⟨q2, q3⟩ := fdiv_bounds (x := b) (u := 32) (by decide)
        constructor
        · rintro ⟨h1, h2⟩
          have := h1 a rfl
          have := h2 b rfl
          omega
        · rintro ⟨h1, h2⟩
          exact ⟨fun x e => by cases e; omega, fun x e => by cases e; omega⟩
  · right
    refine ⟨fun h => g (hs.mpr h), ?_⟩
    unfold G_weight_range runF m_weight_range
    simp [startS, h1, isNonD]
end PW
/-! PL16: copied parcels. -/
namespace PW
open DL MA
/-- a copy of p put behind, o its number with p -/
def cpLast (T : Tab) (p : Nat) (o : Option Int) (a : Nat) : Option Int := if a = p then o else ent T p a
def cpRow (T : Tab) (p : Nat) (o : Option Int) (a : Nat) : List (Option Int) := T.getD a [] ++ [cpLast T p o a]
def copyT (T : Tab) (p : Nat) (o : Option Int) : Tab := (List.range (T.length + 1)).map (cpRow T p o)
theorem copyT_len (T : Tab) (p : Nat) (o : Option Int) : (copyT T p o).length = T.length + 1 := by
  unfold copyT
  rw [List.length_map, List.length_range]
theorem copyT_row {T : Tab} {p : Nat} {o : Option Int} {a : Nat} (h : a < T.length + 1) : (copyT T p o).getD a [] = cpRow T p o a := by
  unfold copyT
  rw [List.getD_eq_getElem?_getD, List.getElem?_map, List.getElem?_range h]
  rfl
theorem row_len {T : Tab} (hT : Shp T) (a : Nat) : (T.getD a []).length = T.length - a := by
  by_cases h : a < T.length
  · exact hT.2 a h
  · rw [List.getD_eq_getElem?_getD, List.getElem?_eq_none (by omega)]
    show 0 = _
    omega
theorem copyT_shp {T : Tab} {p : Nat} {o : Option Int} (hT : Shp T) (hl : T.length < 1000) : Shp (copyT T p o) := by
  refine ⟨by rw [copyT_len]; omega, fun i hi => ?_⟩
  rw [copyT_len] at hi ⊢
  rw [copyT_row hi]
  unfold cpRow
  rw [List.length_append, row_len hT, List.length_singleton]
  omega
theorem copyT_lt {T : Tab} {p : Nat} {o : Option Int} (hT : Shp T) {a b : Nat} (h : a < b) (hb : b ≤ T.length + 1) : ent (copyT T p o) a b = if b = T.length + 1 then cpLast T p o a else ent T a b := by
  have hl := row_len hT a
  rw [ent_pl, if_pos h]
  unfold pl
  rw [copyT_row (by omega)]
  unfold cpRow
  by_cases c : b = T.length + 1
  · rw [if_pos c, List.getD_eq_getElem?_getD, show b - a - 1 = (T.getD a []).length by omega, List.getElem?_concat_length]
    rfl
  · rw [if_neg c, List.getD_eq_getElem?_getD, List.getElem?_append_left (by omega), ← List.getD_eq_getElem?_getD, ent_pl, if_pos h]
    rfl
/-- the copy's numbers -/
theorem copyT_old {T : Tab} {p : Nat} {o : Option Int} (hT : Shp T) {a b : Nat} (ha : a ≤ T.length) (hb : b ≤ T.length) : ent (copyT T p o) a b = ent T a b := by
  rcases Nat.lt_trichotomy a b with h | h | h
  · rw [copyT_lt hT h (by omega), if_neg (by omega)]
  · rw [h, ent_self, ent_self]
  · rw [ent_symm, copyT_lt hT h (by omega), if_neg (by omega), ent_symm]
theorem copyT_new {T : Tab} {p : Nat} {o : Option Int} (hT : Shp T) {a : Nat} (ha : a ≤ T.length) : ent (copyT T p o) a (T.length + 1) = cpLast T p o a := by
  rw [copyT_lt hT (by omega) (Nat.le_refl _), if_pos rfl]
theorem copied_b0 {T : Tab} {p a n : Nat} {o : Option Int} {rows : List D} {s6 : Slot} (hT : Shp T) (hn : n = T.length + 1) (hp : p < n) (ha : a < n) (hl : rows.length ≤ 1000) :
    ∃ x, ex (phi [G__law_entry]) cs b__law_copied_0 [.val (tabD T), .val (.int p), .val (oD o), .val (.int n), .lst rows, .val (.int a), s6] = some (.nx [.val (tabD T), .val (.int p), .val (oD o), .val (.int n), .lst (rows ++ [rowD (cpRow T p o a)]), .val (.int a), x]) := by
  have he := law_entry_eq hT (a := p) (b := a) (by omega) (by omega)
  have hl' : rows.length ≤ 100000 := by omega
  have h1000 := hT.1
  have hrl := row_len hT a
  refine ⟨.val (oD (cpLast T p o a)), ?_⟩
  have hrow : rowD (cpRow T p o a) = .tup ((T.getD a []).map oD ++ [oD (cpLast T p o a)]) := by
    unfold rowD cpRow
    rw [List.map_append]
    rfl
  have hkp := keepD_row (cpRow T p o a)
  have hadd : addD (.tup ((T.getD a []).map oD)) (.tup [oD (cpLast T p o a)]) = some (rowD (cpRow T p o a)) := by
    rw [hrow]
    show (if ((T.getD a []).map oD).length + 1 ≤ lim then _ else _) = _
    rw [if_pos (by rw [List.length_map, hrl]; unfold lim; omega)]
  have hcl : cpLast T p o a = if a = p then o else ent T p a := rfl
  have hsc : scalD (rowD (cpRow T p o a)) = false := rfl
  by_cases hlast : a < T.length
  · have hix : ixD (tabD T) (.int a) = some (.tup ((T.getD a []).map oD)) := by
      show L2.atI (T.map rowD) (a : Int) = _
      rw [atI_nat_eq, List.getElem?_map, List.getElem?_eq_getElem hlast, List.getD_eq_getElem?_getD, List.getElem?_eq_getElem hlast]
      rfl
    have hlt : (a : Int) < (n : Int) - 1 := by omega
    generalize (T.getD a []).map oD = R at *
    generalize rowD (cpRow T p o a) = RR at *
    unfold b__law_copied_0
    by_cases hap : a = p
    · rw [if_pos hap] at hcl
      rw [hcl] at hadd ⊢
      have hap' : (a : Int) = p := by omega
      simp [hap', lim, hlt, hix, hadd, hsc, hkp, appS, hl'] <;> simp [← hap', hlt, hix, hadd, hsc, hkp, appS, hl']
    · rw [if_neg hap] at hcl
      rw [hcl] at hadd ⊢
      have hap' : ¬ (a : Int) = p := by omega
      simp [hap', lim, hlt, hix, he, hadd, hsc, hkp, appS, hl']
  · have e0 : T.getD a [] = [] := by rw [List.getD_eq_getElem?_getD, List.getElem?_eq_none (by omega)]; rfl
    rw [e0] at hadd
    simp only [List.map_nil] at hadd
    have hlt : ¬ (a : Int) < (n : Int) - 1 := by omega
    generalize rowD (cpRow T p o a) = RR at *
    unfold b__law_copied_0
    by_cases hap : a = p
    · rw [if_pos hap] at hcl
      rw [hcl] at hadd ⊢
      have hap' : (a : Int) = p := by omega
      simp [hap', lim, hlt, hadd, hsc, hkp, appS, hl'] <;> simp [← hap', hlt, hadd, hsc, hkp, appS, hl']
    · rw [if_neg hap] at hcl
      rw [hcl] at hadd ⊢
      have hap' : ¬ (a : Int) = p := by omega
      simp [hap', lim, hlt, he, hadd, hsc, hkp, appS, hl']
theorem copied_eq {T : Tab} {p : Nat} {o : Option Int} (hT : Shp T) (h100 : T.length ≤ 100) (hp : p < T.length + 1) : G__law_copied [tabD T, .int p, oD o] = some (tabD (copyT T p o)) := by
  obtain ⟨n, hn⟩ : ∃ n, n = T.length + 1 := ⟨_, rfl⟩
  have hn' : (T.length : Int) + 1 = (n : Int) := by omega
  have r2 : r62 (n : Int) = true := r62_of (by omega) (by omega)
  obtain ⟨st, h1, x, y, e⟩ := loop_rng (Φ := phi [G__law_entry]) (cs := cs) (body := b__law_copied_0) (j := 5) (a := 0) (b := n) (st := [.val (tabD T), .val (.int p), .val (oD o), .val (.int n), .lst [], .und, .und]) (Nat.zero_le _)
    (fun k st => ∃ x y, st = [.val (tabD T), .val (.int p), .val (oD o), .val (.int n), .lst (((List.range k).map (cpRow T p o)).map rowD), x, y]) ⟨_, _, rfl⟩ (fun k st ⟨x, y, e⟩ => by rw [e]; exact (by decide : 5 < 7)) fun k _ hk st ⟨x, y, e⟩ => by
      subst e
      obtain ⟨z, h⟩ := copied_b0 (T := T) (p := p) (a := k) (n := n) (o := o) (rows := ((List.range k).map (cpRow T p o)).map rowD) (s6 := y) hT hn (by omega) hk (by rw [List.length_map, List.length_map, List.length_range]; omega)
      exact ⟨_, h, _, z, by rw [List.range_succ, List.map_append, List.map_append]; rfl⟩
  subst e
  rw [show ((0 : Nat) : Int) = 0 from rfl] at h1
  have hfin : ((List.range n).map (cpRow T p o)).map rowD = (copyT T p o).map rowD := by
    rw [hn]
    rfl
  rw [hfin] at h1
  have c2 := toTD_rows (copyT T p o)
  generalize (copyT T p o).map rowD = R at *
  unfold G__law_copied runF m__law_copied
  simp [startS, lim, lenD_tab, hn', r2, h1, c2]
/-! ### weights of copies -/
theorem copy_has {T : Tab} {p : Nat} (hT : Shp T) (hp : p < T.length + 1) {o : Option Int} (v : Int) (h : Has (T.length + 1) (ent T) p p v) (ho : ∀ x, o = some x → x = v) :
    ∃ U w, Fit (T.length + 1 + 1) (ent (copyT T p o)) U w ∧ v * U ≤ 2 * w p ∧ 2 * w p < (v + 1) * U ∧ w (T.length + 1) = w p := by
  obtain ⟨U, w, f, h1, h2⟩ := h
  have hne : p ≠ T.length + 1 := by omega
  refine ⟨U, fun i => if i = T.length + 1 then w p else w i, ⟨f.1, fun i c x hi hc e => ?_⟩, ?_, ?_, ?_⟩
  · have key : ∀ i x, i ≤ T.length → ent (copyT T p o) i (T.length + 1) = some x → x * U ≤ w i + w p ∧ w i + w p < (x + 1) * U := fun i x hi e => by
      rw [copyT_new hT hi] at e
      unfold cpLast at e
      split at e
      · rename_i q
        rw [ho x e, q]
        exact ⟨h1, h2⟩
      · rw [ent_symm] at e
        exact f.2 i p x (by omega) hp e
    by_cases ci : i = T.length + 1
    · by_cases cc : c = T.length + 1
      · rw [ci, cc, ent_self] at e
        cases e
      · rw [ci, ent_symm] at e
        have := key c x (by omega) e
        simp only [if_pos ci, if_neg cc]
        omega
    · by_cases cc : c = T.length + 1
      · rw [cc] at e
        have := key i x (by omega) e
        simp only [if_neg ci, if_pos cc]
        omega
      · rw [copyT_old hT (by omega) (by omega)] at e
        simp only [if_neg ci, if_neg cc]
        exact f.2 i c x (by omega) (by omega) e
  · show v * U ≤ 2 * (if p = T.length + 1 then w p else w p)
    rw [if_neg hne]; omega
  · show 2 * (if p = T.length + 1 then w p else w p) < (v + 1) * U
    rw [if_neg hne]; omega
  · show (if T.length + 1 = T.length + 1 then w p else w (T.length + 1)) = if p = T.length + 1 then w p else w p
    rw [if_pos rfl, if_neg hne]
/-- back: the copy's and the parcel's weights joined -/
theorem copy_join {T : Tab} {p : Nat} (hT : Shp T) (hp : p < T.length + 1) {o : Option Int} {U : Int} {w : Nat → Int} (f : Fit (T.length + 1 + 1) (ent (copyT T p o)) U w) : Fit (T.length + 1) (ent T) (2 * U) fun i => if i = p then w p + w (T.length + 1) else 2 * w i := by
  refine ⟨by have := f.1; omega, fun i c x hi hc e => ?_⟩
  have e1 : x * (2 * U) = 2 * (x * U) := by rw [← Int.mul_assoc, Int.mul_comm x 2, Int.mul_assoc]
  have e2 : (x + 1) * (2 * U) = 2 * ((x + 1) * U) := by rw [← Int.mul_assoc, Int.mul_comm (x + 1) 2, Int.mul_assoc]
  rw [e1, e2]
  have old := f.2 i c x (by omega) (by omega) (by rw [copyT_old hT (by omega) (by omega)]; exact e)
  by_cases ci : i = p
  · by_cases cc : c = p
    · rw [ci, cc, ent_self] at e
      cases e
    · subst ci
      have := f.2 c (T.length + 1) x (by omega) (by omega) (by rw [copyT_new hT (by omega)]; unfold cpLast; rw [if_neg cc]; exact e)
      simp only [if_true, if_neg cc]
      omega
  · by_cases cc : c = p
    · subst cc
      have := f.2 i (T.length + 1) x (by omega) (by omega) (by rw [copyT_new hT (by omega)]; unfold cpLast; rw [if_neg ci, ent_symm]; exact e)
      simp only [if_true, if_neg ci]
      omega
    · simp only [if_neg ci, if_neg cc]
      omega
theorem copy_sol {T : Tab} {p : Nat} (hT : Shp T) (hp : p < T.length + 1) (v : Int) : Sol (T.length + 1 + 1) (ent (copyT T p (some v))) ↔ Has (T.length + 1) (ent T) p p v := by
  constructor
  · rintro ⟨U, w, f⟩
    refine ⟨2 * U, _, copy_join hT hp f, ?_⟩
    have := f.2 p (T.length + 1) v (by omega) (by omega) (by rw [copyT_new hT (by omega)]; unfold cpLast; rw [if_pos rfl])
    have e1 : v * (2 * U) = 2 * (v * U) := by rw [← Int.mul_assoc, Int.mul_comm v 2, Int.mul_assoc]
    have e2 : (v + 1) * (2 * U) = 2 * ((v + 1) * U) := by rw [← Int.mul_assoc, Int.mul_comm (v + 1) 2, Int.mul_assoc]
    rw [e1, e2]
    simp only [if_true]
    omega
  · intro h
    obtain ⟨U, w, f, _⟩ := copy_has hT hp (o := some v) v h (fun x e => (Option.some.inj e).symm)
    exact ⟨U, w, f⟩
end PW
/-! PL17: bounds of whole tables are known and small. -/
namespace PW
open DL MA
/-- all entries between -B and B -/
def Small (T : Tab) (B : Int) : Prop := ∀ a b x, ent T a b = some x → -B ≤ x ∧ x ≤ B
theorem has_small {T : Tab} {B : Int} (hw : Whl T) (hB : Small T B) (h3 : 3 ≤ T.length + 1) {p : Nat} (hp : p < T.length + 1) {v : Int} (h : Has (T.length + 1) (ent T) p p v) : -(3 * B) - 2 < v ∧ v < 3 * B + 2 := by
  obtain ⟨a, b, ha, hb, hpa, hpb, hab⟩ : ∃ a b, a < T.length + 1 ∧ b < T.length + 1 ∧ p ≠ a ∧ p ≠ b ∧ a ≠ b := by
    by_cases c0 : p = 0
    · exact ⟨1, 2, by omega, by omega, by omega, by omega, by omega⟩
    · by_cases c1 : p = 1
      · exact ⟨0, 2, by omega, by omega, by omega, by omega, by omega⟩
      · exact ⟨0, 1, by omega, by omega, by omega, by omega, by omega⟩
  obtain ⟨U, w, f, h1, h2⟩ := h
  have hU := f.1
  obtain ⟨x, ex⟩ := hw p a hpa (by omega) (by omega)
  obtain ⟨y, ey⟩ := hw p b hpb (by omega) (by omega)
  obtain ⟨z, ez⟩ := hw a b hab (by omega) (by omega)
  have bx := hB _ _ _ ex
  have by' := hB _ _ _ ey
  have bz := hB _ _ _ ez
  have fx := f.2 p a x hp ha ex
  have fy := f.2 p b y hp hb ey
  have fz := f.2 a b z ha hb ez
  have e1 : v * U < (x + y - z + 2) * U := by
    have : (x + y - z + 2) * U = (x + 1) * U + (y + 1) * U - z * U := by rw [← Int.add_mul, ← Int.sub_mul]; congr 1; omega
    omega
  have e2 : (x + y - z - 1) * U < (v + 1) * U := by
    have : (x + y - z - 1) * U = x * U + y * U - (z + 1) * U := by rw [← Int.add_mul, ← Int.sub_mul]; congr 1; omega
    omega
  have := Int.lt_of_mul_lt_mul_right e1 (Int.le_of_lt hU)
  have := Int.lt_of_mul_lt_mul_right e2 (Int.le_of_lt hU)
  omega
theorem weight_range_whole {T : Tab} {B : Int} (hT : Shp T) (hw : Whl T) (hB : Small T B) (h3 : 3 ≤ T.length + 1) (h12 : T.length + 1 ≤ 12) (hs : Sol (T.length + 1) (ent T)) {p : Nat} (hp : p < T.length + 1) :
    ∃ lo hi, G_weight_range [tabD T, .int p] = some (.tup [.int lo, .int hi]) ∧ (∀ v, Has (T.length + 1) (ent T) p p v ↔ lo ≤ v ∧ v < hi) ∧ lo < hi ∧ -(3 * B) - 2 < lo ∧ hi ≤ 3 * B + 2 := by
  rcases weight_range_ok hT h12 hp with ⟨_, ⟨_, h⟩ | ⟨lo, hi, h1, h2⟩⟩ | ⟨h, _⟩
  · have := (has_small hw hB h3 hp (h (3 * B + 2))).2
    omega
  · obtain ⟨v, hv⟩ := has_some hs p p
    have q := (h2 v).mp hv
    have q1 := has_small hw hB h3 hp ((h2 lo).mpr ⟨by omega, by omega⟩)
    have q2 := has_small hw hB h3 hp ((h2 (hi - 1)).mpr ⟨by omega, by omega⟩)
    exact ⟨lo, hi, h1, h2, by omega, by omega, by omega⟩
  · exact absurd hs h
theorem tabOf_small {u : Int} {ws : List Int} (hu : 1 ≤ u) (hb : ∀ w ∈ ws, -60 ≤ w ∧ w ≤ 300) (hl : 1 ≤ ws.length) (hl2 : ws.length ≤ 1000) : Small (tabOf u ws) 600 := fun a b x e => by
  have key : ∀ a b x, a < b → ent (tabOf u ws) a b = some x → -600 ≤ x ∧ x ≤ 600 := fun a b x hab e => by
    by_cases hbl : b < ws.length
    · rw [tabOf_ent (by omega) (by omega) hbl] at e
      cases e
      have b1 := hb _ (dg_mem (ds := ws) (i := a) (by omega))
      have b2 := hb _ (dg_mem (ds := ws) (i := b) hbl)
      obtain ⟨q1, q2⟩ := fdiv_bounds (x := dg ws a + dg ws b) (u := u) (by omega)
      generalize hx : dg ws a + dg ws b = x at *
      generalize x.fdiv u = q at *
      constructor
      · by_cases c : -600 ≤ q
        · exact c
        · have : (q + 1) * u ≤ (-600) * u := Int.mul_le_mul_of_nonneg_right (by omega) (by omega)
          have : (-600) * u ≤ -600 := by omega
          omega
      · by_cases c : q ≤ 600
        · exact c
        · have : 601 * u ≤ q * u := Int.mul_le_mul_of_nonneg_right (by omega) (by omega)
          omega
    · rw [ent_pl, if_pos hab] at e
      unfold pl at e
      have hsh := row_len (tabOf_shp (u := u) (ws := ws) hl2) a
      rw [tabOf_len] at hsh
      rw [List.getD_eq_getElem?_getD, List.getElem?_eq_none (by omega)] at e
      cases e
  rcases Nat.lt_trichotomy a b with h | h | h
  · exact key a b x h e
  · rw [h, ent_self] at e; cases e
  · rw [ent_symm] at e; exact key b a x h e
end PW
/-! PL18: tables with one entry changed; what an entry can be. -/
namespace PW
open DL MA
theorem cutD_to {α : Type} (f : α → D) (xs : List α) (k : Nat) : cutD (xs.map f) none (some (k : Int)) = (xs.take k).map f := by
  have := cutD_fromTo f xs 0 k
  rw [List.drop_zero, Nat.sub_zero] at this
  exact this
theorem set_cut {α : Type} (l : List α) (i : Nat) (x : α) (h : i < l.length) : l.take i ++ [x] ++ l.drop (i + 1) = l.set i x := by
  rw [List.set_eq_take_append_cons_drop, if_pos h, List.append_assoc]
  rfl
theorem addD_t {α : Type} (f : α → D) (xs ys : List α) (h : xs.length + ys.length ≤ 100000) : addD (.tup (xs.map f)) (.tup (ys.map f)) = some (.tup ((xs ++ ys).map f)) := by
  show (if (xs.map f).length + (ys.map f).length ≤ lim then some (D.tup (xs.map f ++ ys.map f)) else none) = _
  rw [if_pos (by rw [List.length_map, List.length_map]; exact h), List.map_append]
theorem addD_l {α : Type} (f : α → D) (xs ys : List α) (h : xs.length + ys.length ≤ 100000) : addD (.lst (xs.map f)) (.lst (ys.map f)) = some (.lst ((xs ++ ys).map f)) := by
  show (if (xs.map f).length + (ys.map f).length ≤ lim then some (D.lst (xs.map f ++ ys.map f)) else none) = _
  rw [if_pos (by rw [List.length_map, List.length_map]; exact h), List.map_append]
theorem tab_ix {T : Tab} {i : Nat} (h : i < T.length) : ixD (tabD T) (.int (i : Int)) = some (rowD (T.getD i [])) := by
  show L2.atI (T.map rowD) (i : Int) = _
  rw [atI_nat_eq, List.getElem?_map, List.getElem?_eq_getElem h, List.getD_eq_getElem?_getD, List.getElem?_eq_getElem h]
  rfl
theorem with_eq {T : Tab} {i j : Nat} {o : Option Int} (hT : Shp T) (hij : i < j) (hj : j ≤ T.length) : G__law_with [tabD T, .int i, .int j, oD o] = some (tabD (putT T i (j - i - 1) o)) := by
  obtain ⟨p, hp⟩ : ∃ p, p = j - i - 1 := ⟨_, rfl⟩
  have hpi : (j : Int) - (i : Int) - 1 = (p : Int) := by omega
  have h1000 := hT.1
  have hrl := hT.2 i (by omega)
  obtain ⟨r, hr⟩ : ∃ r, r = T.getD i [] := ⟨_, rfl⟩
  have h1 := tab_ix (T := T) (i := i) (by omega)
  rw [← hr] at h1 hrl
  have h2 : slBD (rowD r) (.int (p : Int)) = some (.tup ((r.take p).map oD)) := by
    rw [← cutD_to]
    rfl
  have h3 : slAD (rowD r) (.int ((p : Int) + 1)) = some (.tup ((r.drop (p + 1)).map oD)) := by
    rw [← cutD_from, show ((p + 1 : Nat) : Int) = (p : Int) + 1 by omega]
    rfl
  have h4 : addD (.tup ((r.take p).map oD)) (.tup [oD o]) = some (.tup ((r.take p ++ [o]).map oD)) := addD_t oD (r.take p) [o] (by rw [List.length_take, List.length_singleton]; omega)
  have h5 : addD (.tup ((r.take p ++ [o]).map oD)) (.tup ((r.drop (p + 1)).map oD)) = some (rowD (r.set p o)) := by
    rw [addD_t oD _ _ (by rw [List.length_append, List.length_take, List.length_singleton, List.length_drop]; omega), set_cut r p o (by omega)]
    rfl
  have h6 : slBD (tabD T) (.int (i : Int)) = some (.tup ((T.take i).map rowD)) := by
    rw [← cutD_to]
    rfl
  have h7 : slAD (tabD T) (.int ((i : Int) + 1)) = some (.tup ((T.drop (i + 1)).map rowD)) := by
    rw [← cutD_from, show ((i + 1 : Nat) : Int) = (i : Int) + 1 by omega]
    rfl
  have h8 : addD (.tup ((T.take i).map rowD)) (.tup [rowD (r.set p o)]) = some (.tup ((T.take i ++ [r.set p o]).map rowD)) := addD_t rowD (T.take i) [r.set p o] (by rw [List.length_take, List.length_singleton]; omega)
  have h9 : addD (.tup ((T.take i ++ [r.set p o]).map rowD)) (.tup ((T.drop (i + 1)).map rowD)) = some (tabD (putT T i p o)) := by
    rw [addD_t rowD _ _ (by rw [List.length_append, List.length_take, List.length_singleton, List.length_drop]; omega), set_cut T i _ (by omega), hr]
    rfl
  rw [← hp]
  generalize tabD T = A at *
  generalize tabD (putT T i p o) = A2 at *
  generalize (r.take p).map oD = R1 at *
  generalize (r.drop (p + 1)).map oD = R2 at *
  generalize (r.take p ++ [o]).map oD = R3 at *
  have sc : scalD (rowD (r.set p o)) = false := rfl
  generalize rowD (r.set p o) = R4 at *
  generalize rowD r = R at *
  generalize (T.take i ++ [r.set p o]).map rowD = R5 at *
  generalize (T.take i).map rowD = R6 at *
  generalize (T.drop (i + 1)).map rowD = R7 at *
  generalize oD o = O at *
  unfold G__law_with runF m__law_with
  simp [startS, hpi, h1, h2, h3, h4, h5, h6, h7, h8, h9, lim, sc]
theorem tab_ext {T T' : Tab} (h : Shp T) (h' : Shp T') (hl : T'.length = T.length) (hp : ∀ i j, pl T' i j = pl T i j) : T' = T := by
  apply List.ext_getElem hl
  intro i h1 h2
  have g1 : T.getD i [] = T[i] := by rw [List.getD_eq_getElem?_getD, List.getElem?_eq_getElem h2]; rfl
  have g2 : T'.getD i [] = T'[i] := by rw [List.getD_eq_getElem?_getD, List.getElem?_eq_getElem h1]; rfl
  have r1 := h.2 i h2
  have r2 := h'.2 i h1
  rw [g1] at r1
  rw [g2] at r2
  apply List.ext_getElem (by omega)
  intro j h3 h4
  have := hp i j
  unfold pl at this
  rw [g1, g2, List.getD_eq_getElem?_getD, List.getElem?_eq_getElem h3, List.getD_eq_getElem?_getD, List.getElem?_eq_getElem h4] at this
  exact this
section
variable {T : Tab} {i j : Nat} (hT : Shp T) (hij : i < j) (hj : j ≤ T.length)
include hT hij hj
theorem ent_putT (o : Option Int) (a b : Nat) : ent (putT T i (j - i - 1) o) a b = if (a = i ∧ b = j) ∨ (a = j ∧ b = i) then o else ent T a b := by
  have hr := hT.2 i (by omega)
  have key := fun k l => putT_pl (T := T) (i := i) (j := j - i - 1) (v := o) (by omega) (by omega) k l
  rw [ent_pl, ent_pl]
  by_cases c : a < b
  · rw [if_pos c, if_pos c, key]
    by_cases d : a = i ∧ b = j
    · rw [if_pos (by omega), if_pos (.inl d)]
    · rw [if_neg (by omega), if_neg (by omega)]
  · rw [if_neg c, if_neg c]
    by_cases c2 : b < a
    · rw [if_pos c2, if_pos c2, key]
      by_cases d : a = j ∧ b = i
      · rw [if_pos (by omega), if_pos (.inr d)]
      · rw [if_neg (by omega), if_neg (by omega)]
    · rw [if_neg c2, if_neg c2, if_neg (by omega)]
/-- what the pair without its number can have: what makes the table one of weights -/
theorem has_gap {n : Nat} (hn : j < n) (v : Int) : Has n (ent (putT T i (j - i - 1) none)) i j v ↔ Sol n (ent (putT T i (j - i - 1) (some v))) := by
  constructor
  · rintro ⟨U, w, f, h1, h2⟩
    refine ⟨U, w, f.1, fun a b x ha hb e => ?_⟩
    rw [ent_putT hT hij hj] at e
    split at e
    · rename_i c
      cases e
      rcases c with ⟨rfl, rfl⟩ | ⟨rfl, rfl⟩
      · exact ⟨h1, h2⟩
      · constructor <;> omega
    · rename_i c
      refine f.2 a b x ha hb ?_
      rw [ent_putT hT hij hj, if_neg c]
      exact e
  · rintro ⟨U, w, f⟩
    refine ⟨U, w, ⟨f.1, fun a b x ha hb e => ?_⟩, f.2 i j v (by omega) hn (by rw [ent_putT hT hij hj, if_pos (.inl ⟨rfl, rfl⟩)])⟩
    rw [ent_putT hT hij hj] at e
    split at e
    · cases e
    · rename_i c
      refine f.2 a b x ha hb ?_
      rw [ent_putT hT hij hj, if_neg c]
      exact e
theorem putT_whl (hw : Whl T) (v : Int) : Whl (putT T i (j - i - 1) (some v)) := fun a b hab ha hb => by
  rw [putT_len] at ha hb
  rw [ent_putT hT hij hj]
  split
  · exact ⟨v, rfl⟩
  · exact hw a b hab ha hb
theorem va_putT (v : Int) (a b : Nat) : va (putT T i (j - i - 1) (some v)) a b = if (a = i ∧ b = j) ∨ (a = j ∧ b = i) then v else va T a b := by
  unfold va
  rw [ent_putT hT hij hj]
  split <;> rfl
end
/-- an entry by two others -/
def fstT (T : Tab) (i j a b : Nat) : Int := va T i a + va T j b - va T a b
def Oth (n i j a : Nat) : Prop := a < n ∧ a ≠ i ∧ a ≠ j
theorem real_put {T : Tab} {i j : Nat} (hT : Shp T) (hij : i < j) (hj : j ≤ T.length) (hr : ∀ q, ¬ Bad T q) (v : Int) : (∀ q, ¬ Bad (putT T i (j - i - 1) (some v)) q) ↔ ∀ a b, Oth (T.length + 1) i j a → Oth (T.length + 1) i j b → a ≠ b → fstT T i j a b - 1 ≤ v ∧ v ≤ fstT T i j a b + 1 := by
  have h4 := real_four.mp hr
  rw [real_four, putT_len]
  have key := va_putT hT hij hj v
  have no : ∀ a b, ¬ ((a = i ∧ b = j) ∨ (a = j ∧ b = i)) → va (putT T i (j - i - 1) (some v)) a b = va T a b := fun a b h => by rw [key, if_neg h]
  have y1 : va (putT T i (j - i - 1) (some v)) i j = v := by rw [key, if_pos (.inl ⟨rfl, rfl⟩)]
  have y2 : va (putT T i (j - i - 1) (some v)) j i = v := by rw [key, if_pos (.inr ⟨rfl, rfl⟩)]
  have sy := va_symm T
  unfold fstT
  constructor
  · intro h a b ⟨ha, hai, haj⟩ ⟨hb, hbi, hbj⟩ hab
    have q1 := h i j a b (by omega) (by omega) ha hb (by omega) (by omega) (by omega) (by omega) (by omega) hab
    have q2 := h i a j b (by omega) ha (by omega) hb (by omega) (by omega) (by omega) (by omega) hab (by omega)
    rw [y1, no a b (by omega), no i a (by omega), no j b (by omega)] at q1
    rw [y1, no a b (by omega), no i a (by omega), no j b (by omega)] at q2
    omega
  · intro h a b c d ha hb hc hd ab ac ad bc bd cd
    have ap : ∀ x y, x < T.length + 1 → y < T.length + 1 → x ≠ i → x ≠ j → y ≠ i → y ≠ j → x ≠ y → va T i x + va T j y - va T x y - 1 ≤ v ∧ v ≤ va T i x + va T j y - va T x y + 1 := fun x y hx hy h1 h2 h3 h4 h5 => h x y ⟨hx, h1, h2⟩ ⟨hy, h3, h4⟩ h5
    by_cases c1 : (a = i ∧ b = j) ∨ (a = j ∧ b = i)
    · rcases c1 with ⟨rfl, rfl⟩ | ⟨rfl, rfl⟩
      · rw [y1, no c d (by omega), no a c (by omega), no b d (by omega)]
        have := ap c d hc hd (by omega) (by omega) (by omega) (by omega) cd
        omega
      · rw [y2, no c d (by omega), no a c (by omega), no b d (by omega)]
        have := ap d c hd hc (by omega) (by omega) (by omega) (by omega) (by omega)
        have := sy c d
        omega
    · by_cases c2 : (c = i ∧ d = j) ∨ (c = j ∧ d = i)
      · rcases c2 with ⟨rfl, rfl⟩ | ⟨rfl, rfl⟩
        · rw [y1, no a b (by omega), no a c (by omega), no b d (by omega)]
          have := ap a b ha hb (by omega) (by omega) (by omega) (by omega) ab
          have := sy a c
          have := sy b d
          omega
        · rw [y2, no a b (by omega), no a c (by omega), no b d (by omega)]
          have := ap b a hb ha (by omega) (by omega) (by omega) (by omega) (by omega)
          have := sy a c
          have := sy b d
          have := sy a b
          omega
      · by_cases c3 : (a = i ∧ c = j) ∨ (a = j ∧ c = i)
        · rcases c3 with ⟨rfl, rfl⟩ | ⟨rfl, rfl⟩
          · rw [y1, no a b (by omega), no c d (by omega), no b d (by omega)]
            have := ap b d hb hd (by omega) (by omega) (by omega) (by omega) bd
            omega
          · rw [y2, no a b (by omega), no c d (by omega), no b d (by omega)]
            have := ap d b hd hb (by omega) (by omega) (by omega) (by omega) (by omega)
            have := sy b d
            omega
        · by_cases c4 : (b = i ∧ d = j) ∨ (b = j ∧ d = i)
          · rcases c4 with ⟨rfl, rfl⟩ | ⟨rfl, rfl⟩
            · rw [y1, no a b (by omega), no c d (by omega), no a c (by omega)]
              have := ap a c ha hc (by omega) (by omega) (by omega) (by omega) ac
              have := sy a b
              have := sy c d
              omega
            · rw [y2, no a b (by omega), no c d (by omega), no a c (by omega)]
              have := ap c a hc ha (by omega) (by omega) (by omega) (by omega) (by omega)
              have := sy a b
              have := sy c d
              have := sy a c
              omega
          · rw [no a b c1, no c d c2, no a c c3, no b d c4]
            exact h4 a b c d ha hb hc hd ab ac ad bc bd cd
/-! ### the law's own range -/
def loP (T : Tab) (i j : Nat) (p : Nat × Nat) : List Int := [va T i p.1 + va T j p.2 - va T p.1 p.2 - 1, va T i p.2 + va T j p.1 - va T p.1 p.2 - 1]
def hiP (T : Tab) (i j : Nat) (p : Nat × Nat) : List Int := [va T i p.1 + va T j p.2 - va T p.1 p.2 + 1, va T i p.2 + va T j p.1 - va T p.1 p.2 + 1]
def lowsD (T : Tab) (i j : Nat) (ps : List (Nat × Nat)) : Slot := .val (.lst ((ps.flatMap (loP T i j)).map D.int))
def highsD (T : Tab) (i j : Nat) (ps : List (Nat × Nat)) : Slot := .val (.lst ((ps.flatMap (hiP T i j)).map D.int))
theorem flatMap_len2 {α : Type} (f : α → List Int) (h : ∀ x, (f x).length = 2) : ∀ ps : List α, (ps.flatMap f).length = 2 * ps.length
  | [] => rfl
  | p :: ps => by
    rw [List.flatMap_cons, List.length_append, h, flatMap_len2 f h ps, List.length_cons]
    omega
theorem due_b0 {T : Tab} {i j a b : Nat} {ps : List (Nat × Nat)} {s5 s6 s9 s10 s11 s12 : Slot} (hT : Shp T) (hw : Whl T) (hij : i < j) (hj : j ≤ T.length) (ha : Oth (T.length + 1) i j a) (hb : Oth (T.length + 1) i j b) (hab : a ≠ b) (hl : ps.length ≤ 1000) :
    ∃ x y z, ex (phi [G__law_entry]) cs b__law_due_k13_0 [.val (tabD T), .val (.int i), .val (.int j), lowsD T i j ps, highsD T i j ps, s5, s6, .val (.int a), .val (.int b), s9, s10, s11, s12] = some (.nx [.val (tabD T), .val (.int i), .val (.int j), lowsD T i j (ps ++ [(a, b)]), highsD T i j (ps ++ [(a, b)]), s5, s6, .val (.int a), .val (.int b), s9, x, y, z]) := by
  obtain ⟨ha1, ha2, ha3⟩ := ha
  obtain ⟨hb1, hb2, hb3⟩ := hb
  have key : ∀ x y, x ≠ y → x < T.length + 1 → y < T.length + 1 → G__law_entry [tabD T, .int x, .int y] = some (.int (va T x y)) := fun x y h1 h2 h3 => by
    rw [law_entry_eq hT (by omega) (by omega), hw.at h1 (by omega) (by omega)]
    rfl
  have k1 := key a b hab ha1 hb1
  have k2 := key i a (by omega) (by omega) ha1
  have k3 := key j b (by omega) (by omega) hb1
  have k4 := key i b (by omega) (by omega) hb1
  have k5 := key j a (by omega) (by omega) ha1
  have a1 : addD (.lst ((ps.flatMap (loP T i j)).map D.int)) (.lst [.int (va T i a + va T j b - va T a b - 1), .int (va T i b + va T j a - va T a b - 1)]) = some (.lst (((ps ++ [(a, b)]).flatMap (loP T i j)).map D.int)) := by
    have := addD_l D.int (ps.flatMap (loP T i j)) (loP T i j (a, b)) (by rw [flatMap_len2 _ (fun _ => rfl)]; show 2 * ps.length + 2 ≤ _; omega)
    rw [List.flatMap_append, List.flatMap_singleton]
    exact this
  have a2 : addD (.lst ((ps.flatMap (hiP T i j)).map D.int)) (.lst [.int (va T i a + va T j b - va T a b + 1), .int (va T i b + va T j a - va T a b + 1)]) = some (.lst (((ps ++ [(a, b)]).flatMap (hiP T i j)).map D.int)) := by
    have := addD_l D.int (ps.flatMap (hiP T i j)) (hiP T i j (a, b)) (by rw [flatMap_len2 _ (fun _ => rfl)]; show 2 * ps.length + 2 ≤ _; omega)
    rw [List.flatMap_append, List.flatMap_singleton]
    exact this
  refine ⟨.val (.int (va T a b)), .val (.int (va T i a + va T j b - va T a b)), .val (.int (va T i b + va T j a - va T a b)), ?_⟩
  unfold lowsD highsD
  generalize ((ps.flatMap (loP T i j)).map D.int) = L1 at *
  generalize ((ps.flatMap (hiP T i j)).map D.int) = H1 at *
  generalize (((ps ++ [(a, b)]).flatMap (loP T i j)).map D.int) = L2 at *
  generalize (((ps ++ [(a, b)]).flatMap (hiP T i j)).map D.int) = H2 at *
  generalize tabD T = A at *
  unfold b__law_due_k13_0
  simp [k1, k2, k3, k4, k5, a1, a2, lim]
def natD (k : Nat) : D := .int (k : Int)
theorem enmL_len : ∀ (k : Nat) (ds : List D), (enmL k ds).length = ds.length
  | _, [] => rfl
  | k, d :: ds => by
    show (enmL (k + 1) ds).length + 1 = ds.length + 1
    rw [enmL_len (k + 1) ds]
theorem enmL_at : ∀ (k : Nat) (ds : List D) (t : Nat), (enmL k ds)[t]? = (ds[t]?).map fun d => .tup [.int ((k + t : Nat) : Int), d]
  | _, [], _ => rfl
  | k, d :: ds, 0 => rfl
  | k, d :: ds, t + 1 => by
    show (enmL (k + 1) ds)[t]? = (ds[t]?).map _
    rw [enmL_at (k + 1) ds t, show k + 1 + t = k + (t + 1) by omega]
theorem enmL_get {k t : Nat} {ds : List D} (h : t < (enmL k ds).length) : (enmL k ds)[t] = .tup [.int ((k + t : Nat) : Int), ds[t]'(by rw [enmL_len] at h; exact h)] := by
  have h2 : t < ds.length := by rw [enmL_len] at h; exact h
  have := enmL_at k ds t
  rw [List.getElem?_eq_getElem h, List.getElem?_eq_getElem h2] at this
  exact Option.some.inj this
theorem due_b1 {T : Tab} {i j a t : Nat} {xs : List Nat} {ps : List (Nat × Nat)} {s8 s9 s10 s11 s12 : Slot} (hT : Shp T) (hw : Whl T) (hij : i < j) (hj : j ≤ T.length) (ha : Oth (T.length + 1) i j a) (hx : ∀ b, b ∈ xs.drop (t + 1) → Oth (T.length + 1) i j b ∧ a ≠ b) (hxl : xs.length ≤ 20) (hl : ps.length ≤ 900) :
    ∃ v x y z, ex (phi [G__law_entry]) cs b__law_due_k13_1 [.val (tabD T), .val (.int i), .val (.int j), lowsD T i j ps, highsD T i j ps, .val (.lst (xs.map natD)), .val (.int t), .val (.int a), s8, s9, s10, s11, s12] = some (.nx [.val (tabD T), .val (.int i), .val (.int j), lowsD T i j (ps ++ (xs.drop (t + 1)).map fun b => (a, b)), highsD T i j (ps ++ (xs.drop (t + 1)).map fun b => (a, b)), .val (.lst (xs.map natD)), .val (.int t), .val (.int a), v, s9, x, y, z]) := by
  obtain ⟨ys, hys⟩ : ∃ ys, ys = xs.drop (t + 1) := ⟨_, rfl⟩
  have hyl : ys.length ≤ 20 := by rw [hys, List.length_drop]; omega
  have hit : slAD (.lst (xs.map natD)) (.int ((t : Int) + 1)) = some (.lst (ys.map natD)) := by
    rw [hys, ← cutD_from, show ((t + 1 : Nat) : Int) = (t : Int) + 1 by omega]
    rfl
  rw [← hys] at hx
  obtain ⟨st, h1, v, x, y, z, e⟩ := loop_go (Φ := phi [G__law_entry]) (cs := cs) (body := b__law_due_k13_0) (j := 8) (ds := ys.map natD) (st := [.val (tabD T), .val (.int i), .val (.int j), lowsD T i j ps, highsD T i j ps, .val (.lst (xs.map natD)), .val (.int t), .val (.int a), s8, s9, s10, s11, s12])
    (fun k st => ∃ v x y z, st = [.val (tabD T), .val (.int i), .val (.int j), lowsD T i j (ps ++ (ys.take k).map fun b => (a, b)), highsD T i j (ps ++ (ys.take k).map fun b => (a, b)), .val (.lst (xs.map natD)), .val (.int t), .val (.int a), v, s9, x, y, z]) ⟨s8, s10, s11, s12, by rw [List.take_zero, List.map_nil, List.append_nil]⟩ (fun k st ⟨v, x, y, z, e⟩ => by rw [e]; exact (by decide : 8 < 13)) fun k hk st ⟨v, x, y, z, e⟩ => by
      subst e
      have hk' : k < ys.length := by rw [List.length_map] at hk; exact hk
      obtain ⟨o1, o2⟩ := hx ys[k] (List.getElem_mem hk')
      obtain ⟨x', y', z', h⟩ := due_b0 (T := T) (i := i) (j := j) (a := a) (b := ys[k]) (ps := ps ++ (ys.take k).map fun b => (a, b)) (s5 := .val (.lst (xs.map natD))) (s6 := .val (.int t)) (s9 := s9) (s10 := x) (s11 := y) (s12 := z) hT hw hij hj ha o1 o2 (by rw [List.length_append, List.length_map, List.length_take]; omega)
      refine ⟨_, by rw [List.getElem_map]; exact h, .val (.int ((ys[k] : Nat) : Int)), x', y', z', ?_⟩
      rw [List.take_add_one, List.getElem?_eq_getElem hk', List.map_append, ← List.append_assoc]
      rfl
  subst e
  rw [List.length_map, List.take_length] at h1
  refine ⟨v, x, y, z, ?_⟩
  rw [← hys]
  generalize lowsD T i j ps = SL at *
  generalize highsD T i j ps = SH at *
  generalize lowsD T i j (ps ++ ys.map fun b => (a, b)) = SL2 at *
  generalize highsD T i j (ps ++ ys.map fun b => (a, b)) = SH2 at *
  generalize ys.map natD = Y at *
  generalize xs.map natD = X at *
  unfold b__law_due_k13_1
  simp [hit, h1]
def pairsTo (xs : List Nat) (k : Nat) : List (Nat × Nat) := (List.range k).flatMap fun t => (xs.drop (t + 1)).map fun b => (xs.getD t 0, b)
theorem pairsTo_succ (xs : List Nat) (k : Nat) : pairsTo xs (k + 1) = pairsTo xs k ++ (xs.drop (k + 1)).map fun b => (xs.getD k 0, b) := by
  unfold pairsTo
  rw [List.range_succ, List.flatMap_append, List.flatMap_singleton]
theorem pairsTo_len (xs : List Nat) : ∀ k, (pairsTo xs k).length ≤ k * xs.length
  | 0 => Nat.zero_le _
  | k + 1 => by
    have := pairsTo_len xs k
    rw [pairsTo_succ, List.length_append, List.length_map, List.length_drop, Nat.add_mul]
    omega
theorem mem_pairsTo {xs : List Nat} {k a b : Nat} : (a, b) ∈ pairsTo xs k ↔ ∃ t, t < k ∧ a = xs.getD t 0 ∧ b ∈ xs.drop (t + 1) := by
  unfold pairsTo
  rw [List.mem_flatMap]
  constructor
  · rintro ⟨t, h1, h2⟩
    obtain ⟨b', h3, e⟩ := List.mem_map.mp h2
    cases e
    exact ⟨t, List.mem_range.mp h1, rfl, h3⟩
  · rintro ⟨t, h1, rfl, h2⟩
    exact ⟨t, List.mem_range.mpr h1, List.mem_map.mpr ⟨b, h2, rfl⟩⟩
def othL (n i j : Nat) : List Nat := (List.range n).filter fun k => decide (k ≠ i ∧ k ≠ j)
theorem mem_othL {n i j a : Nat} : a ∈ othL n i j ↔ Oth n i j a := by
  unfold othL Oth
  rw [List.mem_filter, List.mem_range, decide_eq_true_eq]
theorem othL_len (n i j : Nat) : (othL n i j).length ≤ n := by
  have := List.length_filter_le (fun k => decide (k ≠ i ∧ k ≠ j)) (List.range n)
  rw [List.length_range] at this
  exact this
theorem othL_sorted (n i j : Nat) : (othL n i j).Pairwise (· < ·) := List.Pairwise.filter _ List.pairwise_lt_range
theorem oth_drop {n i j t b : Nat} (h : b ∈ (othL n i j).drop (t + 1)) : Oth n i j b ∧ (othL n i j).getD t 0 < b := by
  refine ⟨mem_othL.mp (List.mem_of_mem_drop h), ?_⟩
  obtain ⟨s, hs, e⟩ := List.getElem_of_mem h
  rw [List.length_drop] at hs
  rw [List.getElem_drop] at e
  have := (List.pairwise_iff_getElem.mp (othL_sorted n i j)) t (t + 1 + s) (by omega) (by omega) (by omega)
  rw [List.getD_eq_getElem?_getD, List.getElem?_eq_getElem (by omega)]
  show (othL n i j)[t] < b
  rw [← e]
  exact this
theorem oth_pairs {n i j a b : Nat} (ha : Oth n i j a) (hb : Oth n i j b) (h : a < b) : (a, b) ∈ pairsTo (othL n i j) (othL n i j).length := by
  obtain ⟨s, hs, es⟩ := List.getElem_of_mem (mem_othL.mpr ha)
  obtain ⟨t, ht, et⟩ := List.getElem_of_mem (mem_othL.mpr hb)
  have hst : s < t := by
    by_cases c : s < t
    · exact c
    · by_cases d : s = t
      · subst d
        omega
      · have := (List.pairwise_iff_getElem.mp (othL_sorted n i j)) t s ht hs (by omega)
        omega
  refine mem_pairsTo.mpr ⟨s, hs, ?_, ?_⟩
  · rw [List.getD_eq_getElem?_getD, List.getElem?_eq_getElem hs]
    exact es.symm
  · refine List.mem_iff_getElem.mpr ⟨t - s - 1, by rw [List.length_drop]; omega, ?_⟩
    rw [List.getElem_drop, ← et]
    congr 1
    omega
theorem ninD_2 (k i j : Int) : ninD (.int k) (.tup [.int i, .int j]) = some (.bl (decide (k ≠ i ∧ k ≠ j))) := by
  have o1 : okD (.int k) = true := okD_of (n := 0) rfl (by decide)
  have o2 : okD (.tup [.int i, .int j]) = true := okD_of (n := 1) rfl (by decide)
  show (if okD (.int k) && okD (.tup [.int i, .int j]) then some (D.bl (!inL (.int k) [.int i, .int j])) else none) = _
  rw [o1, o2]
  show some (D.bl (!((i == k) || ((j == k) || false)))) = _
  by_cases c : k = i
  · subst c
    simp
  · by_cases d : k = j
    · subst d
      simp
    · have c' : (i == k) = false := by simp; omega
      have d' : (j == k) = false := by simp; omega
      rw [c', d', decide_eq_true ⟨c, d⟩]
      rfl
theorem two_oth {n i j : Nat} (h4 : 4 ≤ n) (hij : i < j) : ∃ a b, Oth n i j a ∧ Oth n i j b ∧ a < b := by
  unfold Oth
  by_cases i0 : i = 0
  · by_cases j1 : j = 1
    · exact ⟨2, 3, by omega, by omega, by omega⟩
    · by_cases j2 : j = 2
      · exact ⟨1, 3, by omega, by omega, by omega⟩
      · exact ⟨1, 2, by omega, by omega, by omega⟩
  · by_cases i1 : i = 1
    · by_cases j2 : j = 2
      · exact ⟨0, 3, by omega, by omega, by omega⟩
      · exact ⟨0, 2, by omega, by omega, by omega⟩
    · by_cases j1 : j = 1
      · omega
      · exact ⟨0, 1, by omega, by omega, by omega⟩
theorem due_eq {T : Tab} {i j : Nat} (hT : Shp T) (hw : Whl T) (hij : i < j) (hj : j ≤ T.length) (h4 : 4 ≤ T.length + 1) (h12 : T.length + 1 ≤ 12) :
    ∃ lo hi, G__law_due_k13 [tabD T, .int i, .int j] = some (.tup [.int lo, .int hi]) ∧ ∀ v, lo ≤ v ∧ v ≤ hi ↔ ∀ a b, Oth (T.length + 1) i j a → Oth (T.length + 1) i j b → a ≠ b → fstT T i j a b - 1 ≤ v ∧ v ≤ fstT T i j a b + 1 := by
  obtain ⟨n, hn⟩ : ∃ n, n = T.length + 1 := ⟨_, rfl⟩
  have hn' : (T.length : Int) + 1 = (n : Int) := by omega
  obtain ⟨xs, hxs⟩ : ∃ xs, xs = othL n i j := ⟨_, rfl⟩
  have hxl : xs.length ≤ 12 := by have := othL_len n i j; rw [hxs]; omega
  rw [← hn]
  obtain ⟨st, h1, t6, t7, t8, t10, t11, t12, e⟩ := loop_goP (Φ := phi [G__law_entry]) (cs := cs) (body := b__law_due_k13_1) (tg := [6, 7]) (ds := enmL 0 (xs.map natD)) (st := [.val (tabD T), .val (.int i), .val (.int j), lowsD T i j [], highsD T i j [], .val (.lst (xs.map natD)), .und, .und, .und, .und, .und, .und, .und])
    (fun k st => ∃ t6 t7 t8 t10 t11 t12, st = [.val (tabD T), .val (.int i), .val (.int j), lowsD T i j (pairsTo xs k), highsD T i j (pairsTo xs k), .val (.lst (xs.map natD)), t6, t7, t8, .und, t10, t11, t12]) ⟨_, _, _, _, _, _, rfl⟩ fun k hk st ⟨t6, t7, t8, t10, t11, t12, e⟩ => by
      subst e
      have hk' : k < xs.length := by rw [enmL_len, List.length_map] at hk; exact hk
      have hg : xs.getD k 0 = xs[k] := by rw [List.getD_eq_getElem?_getD, List.getElem?_eq_getElem hk']; rfl
      have ho : Oth (T.length + 1) i j xs[k] := by
        rw [← hn]
        apply mem_othL.mp
        rw [← hxs]
        exact List.getElem_mem hk'
      have hpl := pairsTo_len xs k
      have hpl2 : k * xs.length ≤ 12 * 12 := Nat.mul_le_mul (by omega) hxl
      obtain ⟨v, x, y, z, h⟩ := due_b1 (T := T) (i := i) (j := j) (a := xs[k]) (t := k) (xs := xs) (ps := pairsTo xs k) (s8 := t8) (s9 := .und) (s10 := t10) (s11 := t11) (s12 := t12) hT hw hij hj ho (fun b hb => by
        have : b ∈ (othL n i j).drop (k + 1) := by rw [← hxs]; exact hb
        have := oth_drop this
        rw [← hxs, hg, hn] at this
        exact ⟨this.1, by omega⟩) (by omega) (by omega)
      rw [← hg, ← pairsTo_succ] at h
      refine ⟨_, _, ?_, h, .val (.int (k : Int)), .val (.int ((xs.getD k 0 : Nat) : Int)), v, x, y, z, rfl⟩
      rw [enmL_get hk, List.getElem_map, Nat.zero_add, hg]
      rfl
  subst e
  rw [enmL_len, List.length_map] at h1
  obtain ⟨ps, hps⟩ : ∃ ps, ps = pairsTo xs xs.length := ⟨_, rfl⟩
  rw [← hps] at h1
  -- what the pairs are
  have mem1 : ∀ a b, (a, b) ∈ ps → Oth n i j a ∧ Oth n i j b ∧ a < b := fun a b h => by
    rw [hps] at h
    obtain ⟨t, h1, h2, h3⟩ := mem_pairsTo.mp h
    rw [hxs] at h2 h3 h1
    have := oth_drop h3
    refine ⟨?_, this.1, by omega⟩
    rw [h2]
    exact mem_othL.mp (getD_mem h1)
  have mem2 : ∀ a b, Oth n i j a → Oth n i j b → a < b → (a, b) ∈ ps := fun a b h1 h2 h3 => by
    rw [hps, hxs]
    exact oth_pairs h1 h2 h3
  obtain ⟨a0, b0, ha0, hb0, hab0⟩ := two_oth (n := n) (i := i) (j := j) (by omega) hij
  have hp0 := mem2 a0 b0 ha0 hb0 hab0
  obtain ⟨lo, hlo⟩ := maxI_some (xs := ps.flatMap (loP T i j)) (fun z => by
    have : (loP T i j (a0, b0)).head (by unfold loP; simp) ∈ ps.flatMap (loP T i j) := List.mem_flatMap.mpr ⟨_, hp0, List.head_mem _⟩
    rw [z] at this
    cases this)
  obtain ⟨hi, hhi⟩ := minI_some (xs := ps.flatMap (hiP T i j)) (fun z => by
    have : (hiP T i j (a0, b0)).head (by unfold hiP; simp) ∈ ps.flatMap (hiP T i j) := List.mem_flatMap.mpr ⟨_, hp0, List.head_mem _⟩
    rw [z] at this
    cases this)
  obtain ⟨x1, x2⟩ := maxI_spec _ _ hlo
  obtain ⟨y1, y2⟩ := minI_spec _ _ hhi
  have hmx := maxD_l (ps.flatMap (loP T i j))
  have hmn := minD_l (ps.flatMap (hiP T i j))
  rw [hlo] at hmx
  rw [hhi] at hmn
  refine ⟨lo, hi, ?_, fun v => ?_⟩
  · have r2 : r62 (n : Int) = true := r62_of (by omega) (by omega)
    have c1 : ∀ (ρ : Env), ρ[0]? = some (some (tabD T)) → ρ[1]? = some (some (.int i)) → ρ[2]? = some (some (.int j)) → 13 ≤ ρ.length → ev (phi [G__law_entry]) cs (.comp [9] [9] false (.rng1 (.bin .add (.blt .len (.cons (.var 0) .nil)) (.int 1))) (.cmp .nin (.var 9) (.tup (.cons (.var 1) (.cons (.var 2) .nil)))) (.var 9)) ρ = some (.lst (xs.map natD)) := by
      intro ρ e0 e1 e2 hlen
      rw [hxs]
      refine comp_filter (g := fun k : Nat => D.int (k : Int)) (h := natD) (xs := List.range n) (p := fun k => decide (k ≠ i ∧ k ≠ j)) ?_ (by rw [List.length_range]; omega) (fun k hk => ?_) (fun k hk _ => ?_)
      · simp [e0, lenD_tab, hn', r2, rngD_nat0]
      · have := ninD_2 (k : Int) (i : Int) (j : Int)
        have e3 : decide ((k : Int) ≠ i ∧ (k : Int) ≠ j) = decide (k ≠ i ∧ k ≠ j) := by
          by_cases c : k ≠ i ∧ k ≠ j
          · rw [decide_eq_true c, decide_eq_true (by omega)]
          · rw [decide_eq_false c, decide_eq_false (by omega)]
        rw [e3] at this
        simp only [ev_cmp, ev_tup, ev_cons, ev_nil, ev_var, cmpD_nin]
        simp only [wipeE_cons, wipeE_nil, List.getElem?_set, List.length_set]
        simp [show 9 < ρ.length by omega, e1, e2, lim, this]
      · simp [show 9 < ρ.length by omega, natD]
    have eL : lowsD T i j [] = .val (.lst []) := rfl
    have eH : highsD T i j [] = .val (.lst []) := rfl
    rw [eL, eH] at h1
    unfold lowsD highsD at h1
    generalize (ps.flatMap (loP T i j)).map D.int = LL at *
    generalize (ps.flatMap (hiP T i j)).map D.int = HH at *
    have he : enmD (.lst (xs.map natD)) = some (.lst (enmL 0 (xs.map natD))) := rfl
    generalize enmL 0 (xs.map natD) = EE at *
    generalize xs.map natD = X at *
    unfold G__law_due_k13 runF m__law_due_k13
    simp [startS, c1, he, h1, hmx, hmn, lim]
  · have sy := va_symm T
    constructor
    · rintro ⟨h1, h2⟩ a b ha hb hab
      unfold fstT
      by_cases c : a < b
      · have q := mem2 a b ha hb c
        have q1 := x2 (va T i a + va T j b - va T a b - 1) (List.mem_flatMap.mpr ⟨_, q, List.mem_cons_self⟩)
        have q2 := y2 (va T i a + va T j b - va T a b + 1) (List.mem_flatMap.mpr ⟨_, q, List.mem_cons_self⟩)
        omega
      · have q := mem2 b a hb ha (by omega)
        have q1 := x2 (va T i a + va T j b - va T b a - 1) (List.mem_flatMap.mpr ⟨_, q, List.mem_cons_of_mem _ List.mem_cons_self⟩)
        have q2 := y2 (va T i a + va T j b - va T b a + 1) (List.mem_flatMap.mpr ⟨_, q, List.mem_cons_of_mem _ List.mem_cons_self⟩)
        have := sy a b
        omega
    · intro h
      obtain ⟨⟨a, b⟩, q1, q2⟩ := List.mem_flatMap.mp x1
      obtain ⟨⟨c, d⟩, q3, q4⟩ := List.mem_flatMap.mp y1
      obtain ⟨o1, o2, o3⟩ := mem1 a b q1
      obtain ⟨o4, o5, o6⟩ := mem1 c d q3
      unfold loP at q2
      unfold hiP at q4
      simp only [List.mem_cons, List.not_mem_nil, or_false] at q2 q4
      have w1 := h a b o1 o2 (by omega)
      have w2 := h b a o2 o1 (by omega)
      have w3 := h c d o4 o5 (by omega)
      have w4 := h d c o5 o4 (by omega)
      unfold fstT at w1 w2 w3 w4
      have := sy a b
      have := sy c d
      constructor
      · rcases q2 with q2 | q2 <;> omega
      · rcases q4 with q4 | q4 <;> omega
end PW
/-! MH: convexity, strict and close bounds of weights (no program in sight). -/
namespace MA
section
variable {n : Nat} {E : Fn}
theorem mul_swap (v k U : Int) : v * (k * U) = k * (v * U) := by rw [← Int.mul_assoc, Int.mul_comm v k, Int.mul_assoc]
theorem Fit.scale {U : Int} {w : Nat → Int} (f : Fit n E U w) {k : Int} (hk : 0 < k) : Fit n E (k * U) fun i => k * w i := by
  refine ⟨Int.mul_pos hk f.1, fun i c v hi hc e => ?_⟩
  obtain ⟨h1, h2⟩ := f.2 i c v hi hc e
  have q1 := Int.mul_le_mul_of_nonneg_left h1 (Int.le_of_lt hk)
  have q2 := Int.mul_lt_mul_of_pos_left h2 hk
  rw [mul_swap v, mul_swap (v + 1)]
  show k * (v * U) ≤ k * w i + k * w c ∧ k * w i + k * w c < k * ((v + 1) * U)
  rw [← Int.mul_add]
  exact ⟨q1, q2⟩
/-- a number between those of two solutions of one unit -/
theorem mid_fitU {U : Int} {w1 w2 : Nat → Int} (f1 : Fit n E U w1) (f2 : Fit n E U w2) {i j : Nat} {v : Int} (h1 : w1 i + w1 j < (v + 1) * U) (h2 : v * U ≤ w2 i + w2 j) : ∃ U w, Fit n E U w ∧ v * U ≤ w i + w j ∧ w i + w j < (v + 1) * U := by
  by_cases c1 : v * U ≤ w1 i + w1 j
  · exact ⟨U, w1, f1, c1, h1⟩
  · by_cases c2 : w2 i + w2 j < (v + 1) * U
    · exact ⟨U, w2, f2, h2, c2⟩
    · rw [Int.add_mul, Int.one_mul] at c2
      have hU := f1.1
      have ha : 0 ≤ w2 i + w2 j - v * U := by omega
      have hb : 0 < v * U - (w1 i + w1 j) := by omega
      have f := f1.mix f2 ha (Int.le_of_lt hb) (by omega)
      generalize hA : w2 i + w2 j - v * U = a at *
      generalize hB : v * U - (w1 i + w1 j) = b at *
      refine ⟨_, _, f, ?_⟩
      have e1 : a * w1 i + b * w2 i + (a * w1 j + b * w2 j) = a * (w1 i + w1 j) + b * (w2 i + w2 j) := by rw [Int.mul_add, Int.mul_add]; omega
      have e2 : w1 i + w1 j = v * U - b := by omega
      have e3 : w2 i + w2 j = v * U + a := by omega
      have e4 : a * (v * U - b) + b * (v * U + a) = v * (a * U + b * U) := by
        rw [Int.mul_sub, Int.mul_add, Int.mul_comm b a]
        have : v * (a * U + b * U) = a * (v * U) + b * (v * U) := by rw [Int.mul_add, mul_swap v a, mul_swap v b]
        omega
      have hpos := f.1
      show v * (a * U + b * U) ≤ a * w1 i + b * w2 i + (a * w1 j + b * w2 j) ∧ a * w1 i + b * w2 i + (a * w1 j + b * w2 j) < (v + 1) * (a * U + b * U)
      rw [e1, e2, e3, e4, Int.add_mul, Int.one_mul]
      omega
/-- two solutions of one unit -/
theorem Fit.same {U1 U2 : Int} {w1 w2 : Nat → Int} {n2 : Nat} {E2 : Fn} (f1 : Fit n E U1 w1) (f2 : Fit n2 E2 U2 w2) : Fit n E (U2 * U1) (fun i => U2 * w1 i) ∧ Fit n2 E2 (U2 * U1) fun i => U1 * w2 i := by
  refine ⟨f1.scale f2.1, ?_⟩
  rw [Int.mul_comm]
  exact f2.scale f1.1
theorem scale_le {k a b : Int} (hk : 0 < k) (v : Int) {U : Int} : v * (k * U) ≤ k * a ↔ v * U ≤ a := by
  rw [mul_swap]
  constructor
  · intro h
    exact Int.le_of_mul_le_mul_left h hk
  · intro h
    exact Int.mul_le_mul_of_nonneg_left h (Int.le_of_lt hk)
theorem scale_lt {k a : Int} (hk : 0 < k) (v : Int) {U : Int} : k * a < v * (k * U) ↔ a < v * U := by
  rw [mul_swap]
  constructor
  · intro h
    exact Int.lt_of_mul_lt_mul_left h (Int.le_of_lt hk)
  · intro h
    exact Int.mul_lt_mul_of_pos_left h hk
/-- numbers between two numbers -/
theorem has_mid {i j : Nat} {a b v : Int} (h1 : Has n E i j a) (h2 : Has n E i j b) (hav : a ≤ v) (hvb : v ≤ b) : Has n E i j v := by
  obtain ⟨U1, w1, f1, _, l1⟩ := h1
  obtain ⟨U2, w2, f2, l2, _⟩ := h2
  obtain ⟨g1, g2⟩ := f1.same f2
  refine mid_fitU g1 g2 (i := i) (j := j) (v := v) ?_ ?_
  · show U2 * w1 i + U2 * w1 j < _
    rw [← Int.mul_add, scale_lt f2.1]
    have : (a + 1) * U1 ≤ (v + 1) * U1 := Int.mul_le_mul_of_nonneg_right (by omega) (Int.le_of_lt f1.1)
    omega
  · show _ ≤ U1 * w2 i + U1 * w2 j
    rw [← Int.mul_add, Int.mul_comm U2 U1, scale_le (b := 0) f1.1]
    have : v * U2 ≤ b * U2 := Int.mul_le_mul_of_nonneg_right hvb (Int.le_of_lt f2.1)
    omega
/-- the lower bound of a weight is never reached -/
theorem low_strict {i : Nat} (hi : i < n) (hii : E i i = none) {lo : Int} (h : ∀ v, Has n E i i v → lo ≤ v) {U : Int} {w : Nat → Int} (f : Fit n E U w) : lo * U < 2 * w i := by
  have hU := f.1
  by_cases c : lo * U < 2 * w i
  · exact c
  · exfalso
    have f' : Fit n E (5 * U) fun x => if x = i then 5 * w x - 1 else 5 * w x + 2 := by
      refine ⟨by omega, fun a b v ha hb e => ?_⟩
      obtain ⟨h1, h2⟩ := f.2 a b v ha hb e
      rw [mul_swap v, mul_swap (v + 1)]
      generalize v * U = vU at *
      generalize (v + 1) * U = vU' at *
      by_cases ca : a = i
      · by_cases cb : b = i
        · rw [ca, cb, hii] at e
          cases e
        · simp only [if_pos ca, if_neg cb]
          omega
      · by_cases cb : b = i
        · simp only [if_neg ca, if_pos cb]
          omega
        · simp only [if_neg ca, if_neg cb]
          omega
    -- its floor is below lo
    obtain ⟨x, hx⟩ : ∃ x, x = 5 * w i - 1 + (5 * w i - 1) := ⟨_, rfl⟩
    have hv := h (x / (5 * U)) ⟨5 * U, _, f', by
      simp only [if_true]
      rw [← hx]
      exact Int.ediv_mul_le x (by omega), by
      simp only [if_true]
      rw [← hx, Int.add_mul, Int.one_mul]
      have z := Int.lt_ediv_add_one_mul_self x (show 0 < 5 * U by omega)
      rw [Int.add_mul, Int.one_mul] at z
      exact z⟩
    have q1 : x / (5 * U) * (5 * U) ≤ x := Int.ediv_mul_le x (by omega)
    have q2 : lo * (5 * U) ≤ x / (5 * U) * (5 * U) := Int.mul_le_mul_of_nonneg_right hv (by omega)
    rw [mul_swap lo] at q2
    omega
/-- rounding by ranks with any unit: fractional parts become small -/
theorem roundM {N : Nat} {M : Int} (hM : (N : Int) ≤ M) {U : Int} (hU : 0 < U) (X : Nat → Int) : ∃ h : Nat → Int, (∀ u v, u < N → v < N → ∀ k : Int, (k * U ≤ X u - X v ↔ k * M ≤ h u - h v)) ∧ ∀ u v, u < N → v < N → U ∣ X v → ∀ k : Int, k * U ≤ X u - X v → X u - X v < (k + 1) * U → h u - h v < k * M + N := by
  have form : ∀ u, u < N → 0 ≤ (rnk N (fun u => X u % U) u : Int) ∧ (rnk N (fun u => X u % U) u : Int) < N := fun u hu => by
    have := rnk_lt N (fun u => X u % U) hu
    omega
  refine ⟨fun v => M * (X v / U) + (rnk N (fun u => X u % U) v : Int), fun u v hu hv k => ?_, fun u v hu hv hd k h1 h2 => ?_⟩
  · have e1 := Int.mul_ediv_add_emod (X u) U
    have e2 := Int.mul_ediv_add_emod (X v) U
    have a1 := Int.emod_nonneg (X u) (show U ≠ 0 by omega)
    have a2 := Int.emod_nonneg (X v) (show U ≠ 0 by omega)
    have b1 := Int.emod_lt_of_pos (X u) hU
    have b2 := Int.emod_lt_of_pos (X v) hU
    obtain ⟨r1, r1'⟩ := form u hu
    obtain ⟨r2, r2'⟩ := form v hv
    show k * U ≤ X u - X v ↔ k * M ≤ M * (X u / U) + (rnk N (fun u => X u % U) u : Int) - (M * (X v / U) + (rnk N (fun u => X u % U) v : Int))
    have key : ∀ z : Int, U * z = z * U := fun z => Int.mul_comm _ _
    rw [key] at e1 e2
    have m1 : M * (X u / U) = X u / U * M := Int.mul_comm _ _
    have m2 : M * (X v / U) = X v / U * M := Int.mul_comm _ _
    rw [m1, m2]
    have mono := rnk_mono N (fun u => X u % U) (u := v) (v := u)
    have stri := rnk_strict N (fun u => X u % U) (u := u) (v := v) hu
    generalize X u / U = qu at *
    generalize X v / U = qv at *
    have hd : X u - X v = (qu - qv) * U + (X u % U - X v % U) := by rw [Int.sub_mul]; omega
    have hd2 : qu * M - qv * M = (qu - qv) * M := by rw [Int.sub_mul]
    rw [hd]
    by_cases c1 : k < qu - qv
    · have t1 : (k + 1) * U ≤ (qu - qv) * U := Int.mul_le_mul_of_nonneg_right (by omega) (by omega)
      have t2 : (k + 1) * M ≤ (qu - qv) * M := Int.mul_le_mul_of_nonneg_right (by omega) (by omega)
      rw [Int.add_mul, Int.one_mul] at t1 t2
      constructor
      · intro _
        omega
      · intro _
        omega
    · by_cases c2 : k = qu - qv
      · rw [← c2]
        rw [← c2] at hd2
        constructor
        · intro h
          have := mono (by omega)
          omega
        · intro h
          by_cases c : X u % U < X v % U
          · have := stri c
            omega
          · omega
      · have t1 : (qu - qv + 1) * U ≤ k * U := Int.mul_le_mul_of_nonneg_right (by omega) (by omega)
        have t2 : (qu - qv + 1) * M ≤ k * M := Int.mul_le_mul_of_nonneg_right (by omega) (by omega)
        rw [Int.add_mul, Int.one_mul] at t1 t2
        constructor
        · intro h
          omega
        · intro h
          omega
  · have e1 := Int.mul_ediv_add_emod (X u) U
    have e2 := Int.mul_ediv_add_emod (X v) U
    have a1 := Int.emod_nonneg (X u) (show U ≠ 0 by omega)
    have b1 := Int.emod_lt_of_pos (X u) hU
    have z := Int.emod_eq_zero_of_dvd hd
    obtain ⟨r1, r1'⟩ := form u hu
    obtain ⟨r2, r2'⟩ := form v hv
    show M * (X u / U) + (rnk N (fun u => X u % U) u : Int) - (M * (X v / U) + (rnk N (fun u => X u % U) v : Int)) < k * M + N
    have key : ∀ z : Int, U * z = z * U := fun z => Int.mul_comm _ _
    rw [key] at e1 e2
    have m1 : M * (X u / U) = X u / U * M := Int.mul_comm _ _
    have m2 : M * (X v / U) = X v / U * M := Int.mul_comm _ _
    rw [m1, m2]
    generalize X u / U = qu at *
    generalize X v / U = qv at *
    have hd : X u - X v = (qu - qv) * U + X u % U := by rw [Int.sub_mul]; omega
    have hk : qu - qv = k := by
      rw [hd] at h1 h2
      by_cases c1 : k < qu - qv
      · have t1 : (k + 1) * U ≤ (qu - qv) * U := Int.mul_le_mul_of_nonneg_right (by omega) (by omega)
        omega
      · by_cases c2 : qu - qv < k
        · have t1 : (qu - qv + 1) * U ≤ k * U := Int.mul_le_mul_of_nonneg_right (by omega) (by omega)
          rw [Int.add_mul, Int.one_mul] at t1
          omega
        · omega
    have : qu * M - qv * M = k * M := by rw [← Int.sub_mul, hk]
    omega
/-- a weight near its lowest floor -/
theorem low_close (sym : ∀ a b, E a b = E b a) {i : Nat} (hi : i < n) {v : Int} (h : Has n E i i v) (K B : Int) (hK : 0 ≤ K) (hB : 0 ≤ B) : ∃ U w, Fit n E U w ∧ v * U ≤ 2 * w i ∧ K * (2 * w i - v * U) ≤ U ∧ B ≤ U := by
  obtain ⟨U, w, f, h1, h2⟩ := h
  obtain ⟨hU, hf⟩ := f
  have hKn : 0 ≤ K * ((2 * n : Nat) : Int) := Int.mul_nonneg hK (by omega)
  obtain ⟨M, hM⟩ : ∃ M : Int, M = K * ((2 * n : Nat) : Int) + ((2 * n : Nat) : Int) + B + 1 := ⟨_, rfl⟩
  obtain ⟨ht, r1, r2⟩ := roundM (N := 2 * n) (M := M) (by omega) hU fun u => if u < n then w u + w i else w i - w (u - n)
  have key : ∀ a c, a < n → c < n → ∀ k : Int, (k * U ≤ w a + w c ↔ k * M ≤ ht a - ht (n + c)) := fun a c ha hc k => by
    have := r1 a (n + c) (by omega) (by omega) k
    rw [if_pos ha, if_neg (by omega), show n + c - n = c by omega] at this
    rw [← this]
    constructor <;> intro _ <;> omega
  have hts : ∀ a c v, a < n → c < n → E a c = some v → v * M ≤ ht a - ht (n + c) ∧ ht a - ht (n + c) < (v + 1) * M := fun a c v ha hc e => by
    have h1 := hf a c v ha hc e
    refine ⟨(key a c ha hc v).mp h1.1, ?_⟩
    by_cases q : (v + 1) * M ≤ ht a - ht (n + c)
    · have := (key a c ha hc (v + 1)).mpr q
      omega
    · omega
  have q1 := (key i i hi hi v).mp h1
  have q2 := r2 i (n + i) (by omega) (by omega) (by
    rw [if_neg (by omega), show n + i - n = i by omega, Int.sub_self]
    exact Int.dvd_zero _) v (by
    rw [if_pos hi, if_neg (by omega), show n + i - n = i by omega]
    omega) (by
    rw [if_pos hi, if_neg (by omega), show n + i - n = i by omega]
    omega)
  refine ⟨2 * M, fun x => ht x - ht (n + x), ⟨by omega, fun a c v ha hc e => ?_⟩, ?_, ?_, by omega⟩
  · have p1 := hts a c v ha hc e
    have p2 := hts c a v hc ha (by rw [sym]; exact e)
    rw [mul_swap v, mul_swap (v + 1)]
    show 2 * (v * M) ≤ ht a - ht (n + a) + (ht c - ht (n + c)) ∧ ht a - ht (n + a) + (ht c - ht (n + c)) < 2 * ((v + 1) * M)
    omega
  · rw [mul_swap v]
    show 2 * (v * M) ≤ 2 * (ht i - ht (n + i))
    omega
  · rw [mul_swap v]
    show K * (2 * (ht i - ht (n + i)) - 2 * (v * M)) ≤ 2 * M
    have : K * (2 * (ht i - ht (n + i)) - 2 * (v * M)) ≤ K * (2 * ((2 * n : Nat) : Int)) := Int.mul_le_mul_of_nonneg_left (by omega) hK
    rw [mul_swap K] at this
    omega
def negE (E : Fn) : Fn := fun a b => (E a b).map fun v => -v - 1
theorem neg_neg (E : Fn) : negE (negE E) = E := by
  funext a b
  unfold negE
  cases E a b with
  | none => rfl
  | some v => exact congrArg some (show - (-v - 1) - 1 = v by omega)
theorem Fit.flip {U : Int} {w : Nat → Int} (f : Fit n E U w) : Fit n (negE E) (3 * U) fun i => -(3 * w i + 1) := by
  have hU := f.1
  refine ⟨by omega, fun a c v ha hc e => ?_⟩
  unfold negE at e
  rw [Option.map_eq_some_iff] at e
  obtain ⟨x, ex, rfl⟩ := e
  obtain ⟨h1, h2⟩ := f.2 a c x ha hc ex
  have e1 : (-x - 1) * (3 * U) = -(3 * ((x + 1) * U)) := by
    rw [mul_swap (-x - 1), show -x - 1 = -(x + 1) by omega, Int.neg_mul, Int.mul_neg]
  have e2 : (-x - 1 + 1) * (3 * U) = -(3 * (x * U)) := by
    rw [mul_swap (-x - 1 + 1), show -x - 1 + 1 = -x by omega, Int.neg_mul, Int.mul_neg]
  rw [e1, e2]
  show -(3 * ((x + 1) * U)) ≤ -(3 * w a + 1) + -(3 * w c + 1) ∧ -(3 * w a + 1) + -(3 * w c + 1) < -(3 * (x * U))
  omega
/-- a weight near the end of its floor -/
theorem high_close (sym : ∀ a b, E a b = E b a) {i : Nat} (hi : i < n) {v : Int} (h : Has n E i i v) (K B : Int) (hK : 0 ≤ K) (hB : 0 ≤ B) : ∃ U w, Fit n E U w ∧ 2 * w i < (v + 1) * U ∧ K * ((v + 1) * U - 2 * w i) ≤ U ∧ B ≤ U := by
  obtain ⟨U, w, f, h1, h2⟩ := h
  have hU := f.1
  have hn : Has n (negE E) i i (-v - 1) := by
    refine ⟨3 * U, _, f.flip, ?_⟩
    have e1 : (-v - 1) * (3 * U) = -(3 * ((v + 1) * U)) := by
      rw [mul_swap (-v - 1), show -v - 1 = -(v + 1) by omega, Int.neg_mul, Int.mul_neg]
    have e2 : (-v - 1 + 1) * (3 * U) = -(3 * (v * U)) := by
      rw [mul_swap (-v - 1 + 1), show -v - 1 + 1 = -v by omega, Int.neg_mul, Int.mul_neg]
    rw [e1, e2]
    show -(3 * ((v + 1) * U)) ≤ -(3 * w i + 1) + -(3 * w i + 1) ∧ -(3 * w i + 1) + -(3 * w i + 1) < -(3 * (v * U))
    omega
  obtain ⟨U2, w2, g, g1, g2, g3⟩ := low_close (fun a b => by unfold negE; rw [sym]) hi hn (2 * K) (2 * K + B) (by omega) (by omega)
  have e1 : (-v - 1) * U2 = -((v + 1) * U2) := by rw [show -v - 1 = -(v + 1) by omega, Int.neg_mul]
  rw [e1] at g1 g2
  have g' := g.flip
  rw [neg_neg] at g'
  refine ⟨3 * U2, _, g', ?_, ?_, by omega⟩
  · rw [mul_swap (v + 1)]
    show 2 * -(3 * w2 i + 1) < 3 * ((v + 1) * U2)
    omega
  · rw [mul_swap (v + 1)]
    show K * (3 * ((v + 1) * U2) - 2 * -(3 * w2 i + 1)) ≤ 3 * U2
    have e3 : 3 * ((v + 1) * U2) - 2 * -(3 * w2 i + 1) = 3 * (2 * w2 i - -((v + 1) * U2)) + 2 := by omega
    rw [e3, Int.mul_add]
    have e4 : K * (3 * (2 * w2 i - -((v + 1) * U2))) = 3 * (K * (2 * w2 i - -((v + 1) * U2))) := mul_swap _ _ _
    have e5 : 2 * K * (2 * w2 i - -((v + 1) * U2)) = 2 * (K * (2 * w2 i - -((v + 1) * U2))) := Int.mul_assoc _ _ _
    rw [e4]
    rw [e5] at g2
    omega
end
end MA
/-! PL19: ranges by what numbers are possible. -/
namespace PW
open DL MA
theorem has_sol {n : Nat} {E : MA.Fn} {i j : Nat} {v : Int} (h : Has n E i j v) : Sol n E := by
  obtain ⟨U, w, f, _⟩ := h
  exact ⟨U, w, f⟩
section
variable {T : Tab} (hT : Shp T) (h12 : T.length + 1 ≤ 12)
include hT h12
theorem wr_of {i : Nat} (hi : i < T.length + 1) {lo hi' : Int} (hlt : lo < hi') (h : ∀ v, Has (T.length + 1) (ent T) i i v ↔ lo ≤ v ∧ v < hi') : G_weight_range [tabD T, .int i] = some (.tup [.int lo, .int hi']) := by
  rcases weight_range_ok hT h12 hi with ⟨_, ⟨_, g⟩ | ⟨l, r, g1, g2⟩⟩ | ⟨g, _⟩
  · have := (h hi').mp (g hi')
    omega
  · have a1 := (g2 lo).mp ((h lo).mpr ⟨by omega, by omega⟩)
    have a2 := (g2 (hi' - 1)).mp ((h (hi' - 1)).mpr ⟨by omega, by omega⟩)
    have a3 := (h l).mp ((g2 l).mpr ⟨by omega, by omega⟩)
    have a4 := (h (r - 1)).mp ((g2 (r - 1)).mpr ⟨by omega, by omega⟩)
    rw [g1, show l = lo by omega, show r = hi' by omega]
  · exact absurd (has_sol ((h lo).mpr ⟨by omega, hlt⟩)) g
theorem wr_none {i : Nat} (hi : i < T.length + 1) (h : ∀ v, Has (T.length + 1) (ent T) i i v) : G_weight_range [tabD T, .int i] = some (.tup [.non, .non]) := by
  rcases weight_range_ok hT h12 hi with ⟨_, ⟨g, _⟩ | ⟨l, r, _, g2⟩⟩ | ⟨g, _⟩
  · exact g
  · have := (g2 r).mp (h r)
    omega
  · exact absurd (has_sol (h 0)) g
theorem pr_of {i j : Nat} (hi : i < T.length + 1) (hj : j < T.length + 1) {lo hi' : Int} (hlt : lo ≤ hi') (h : ∀ v, Has (T.length + 1) (ent T) i j v ↔ lo ≤ v ∧ v ≤ hi') : G_pair_range [tabD T, .int i, .int j] = some (.tup [.int lo, .int hi']) := by
  rcases pair_range_ok hT h12 hi hj with ⟨_, ⟨_, g⟩ | ⟨l, r, g1, g2⟩⟩ | ⟨g, _⟩
  · have := (h (hi' + 1)).mp (g (hi' + 1))
    omega
  · have a1 := (g2 lo).mp ((h lo).mpr ⟨by omega, by omega⟩)
    have a2 := (g2 hi').mp ((h hi').mpr ⟨by omega, by omega⟩)
    have a3 := (h l).mp ((g2 l).mpr ⟨by omega, by omega⟩)
    have a4 := (h r).mp ((g2 r).mpr ⟨by omega, by omega⟩)
    rw [g1, show l = lo by omega, show r = hi' by omega]
  · exact absurd (has_sol ((h lo).mpr ⟨by omega, hlt⟩)) g
theorem pr_none {i j : Nat} (hi : i < T.length + 1) (hj : j < T.length + 1) (h : ∀ v, Has (T.length + 1) (ent T) i j v) : G_pair_range [tabD T, .int i, .int j] = some (.tup [.non, .non]) := by
  rcases pair_range_ok hT h12 hi hj with ⟨_, ⟨g, _⟩ | ⟨l, r, _, g2⟩⟩ | ⟨g, _⟩
  · exact g
  · have := (g2 (r + 1)).mp (h (r + 1))
    omega
  · exact absurd (has_sol (h 0)) g
end
/-! ### two groups -/
def apT (x y z x' y' z' : Int) : Tab := [[some x, some y, none, none, none], [some z, none, none, none], [none, none, none], [some x', some y'], [some z']]
def t3 (x y z : Int) : Tab := [[some x, some y], [some z]]
theorem t3_of {T : Tab} (hT : Shp T) (hw : Whl T) (h : T.length = 2) : ∃ x y z, T = t3 x y z := by
  obtain ⟨x, hx⟩ := hw 0 1 (by omega) (by omega) (by omega)
  obtain ⟨y, hy⟩ := hw 0 2 (by omega) (by omega) (by omega)
  obtain ⟨z, hz⟩ := hw 1 2 (by omega) (by omega) (by omega)
  refine ⟨x, y, z, ?_⟩
  have r0 := hT.2 0 (by omega)
  have r1 := hT.2 1 (by omega)
  match T, h with
  | [a, b], _ =>
    have r0 : a.length = 2 := r0
    have r1 : b.length = 1 := r1
    match a, b, r0, r1 with
    | [p, q], [r], _, _ =>
      have hx : p = some x := hx
      have hy : q = some y := hy
      have hz : r = some z := hz
      rw [hx, hy, hz]
      rfl
theorem apart_eq (x y z x' y' z' : Int) : G__law_apart [tabD (t3 x y z), tabD (t3 x' y' z')] = some (tabD (apT x y z x' y' z')) := rfl
theorem t3_shp (x y z : Int) : Shp (t3 x y z) := ⟨by show 2 ≤ 1000; omega, fun i hi => by
  have hi : i < 2 := hi
  rcases (by omega : i = 0 ∨ i = 1) with rfl | rfl <;> rfl⟩
theorem apT_shp (x y z x' y' z' : Int) : Shp (apT x y z x' y' z') := ⟨by show 5 ≤ 1000; omega, fun i hi => by
  have hi : i < 5 := hi
  rcases (by omega : i = 0 ∨ i = 1 ∨ i = 2 ∨ i = 3 ∨ i = 4) with rfl | rfl | rfl | rfl | rfl <;> rfl⟩
theorem ent_apT (x y z x' y' z' : Int) {a b : Nat} (ha : a < 6) (hb : b < 6) : ent (apT x y z x' y' z') a b = if a < 3 ∧ b < 3 then ent (t3 x y z) a b else if 3 ≤ a ∧ 3 ≤ b then ent (t3 x' y' z') (a - 3) (b - 3) else none := by
  rcases (by omega : a = 0 ∨ a = 1 ∨ a = 2 ∨ a = 3 ∨ a = 4 ∨ a = 5) with rfl | rfl | rfl | rfl | rfl | rfl <;> rcases (by omega : b = 0 ∨ b = 1 ∨ b = 2 ∨ b = 3 ∨ b = 4 ∨ b = 5) with rfl | rfl | rfl | rfl | rfl | rfl <;> rfl
section
variable {x y z x' y' z' : Int}
abbrev EA (x y z : Int) : MA.Fn := ent (t3 x y z)
abbrev EP (x y z x' y' z' : Int) : MA.Fn := ent (apT x y z x' y' z')
theorem ap_join {U : Int} {w w' : Nat → Int} (f : Fit 3 (EA x y z) U w) (f' : Fit 3 (EA x' y' z') U w') : Fit 6 (EP x y z x' y' z') U fun i => if i < 3 then w i else w' (i - 3) := by
  refine ⟨f.1, fun a b v ha hb e => ?_⟩
  rw [show EP x y z x' y' z' = ent (apT x y z x' y' z') from rfl, ent_apT x y z x' y' z' ha hb] at e
  split at e
  · rename_i c
    simp only [if_pos c.1, if_pos c.2]
    exact f.2 a b v c.1 c.2 e
  · split at e
    · rename_i c
      have n1 : ¬ a < 3 := by omega
      have n2 : ¬ b < 3 := by omega
      simp only [if_neg n1, if_neg n2]
      exact f'.2 (a - 3) (b - 3) v (by omega) (by omega) e
    · cases e
theorem ap_left {U : Int} {w : Nat → Int} (f : Fit 6 (EP x y z x' y' z') U w) : Fit 3 (EA x y z) U w := by
  refine ⟨f.1, fun a b v ha hb e => f.2 a b v (by omega) (by omega) ?_⟩
  rw [show EP x y z x' y' z' = ent (apT x y z x' y' z') from rfl, ent_apT x y z x' y' z' (by omega) (by omega), if_pos ⟨ha, hb⟩]
  exact e
theorem ap_right {U : Int} {w : Nat → Int} (f : Fit 6 (EP x y z x' y' z') U w) : Fit 3 (EA x' y' z') U fun i => w (3 + i) := by
  refine ⟨f.1, fun a b v ha hb e => f.2 (3 + a) (3 + b) v (by omega) (by omega) ?_⟩
  rw [show EP x y z x' y' z' = ent (apT x y z x' y' z') from rfl, ent_apT x y z x' y' z' (by omega) (by omega), if_neg (by omega), if_pos (by omega), show 3 + a - 3 = a by omega, show 3 + b - 3 = b by omega]
  exact e
theorem ap_has_left (s' : Sol 3 (EA x' y' z')) {a b : Nat} (ha : a < 3) (hb : b < 3) (v : Int) : Has 6 (EP x y z x' y' z') a b v ↔ Has 3 (EA x y z) a b v := by
  constructor
  · rintro ⟨U, w, f, h1, h2⟩
    exact ⟨U, w, ap_left f, h1, h2⟩
  · rintro ⟨U, w, f, h1, h2⟩
    obtain ⟨U', w', f'⟩ := s'
    obtain ⟨g1, g2⟩ := f.same f'
    refine ⟨_, _, ap_join g1 g2, ?_⟩
    simp only [if_pos ha, if_pos hb]
    rw [← Int.mul_add, scale_lt f'.1, scale_le (b := 0) f'.1]
    exact ⟨h1, h2⟩
theorem ap_has_right (s : Sol 3 (EA x y z)) {a b : Nat} (ha : a < 3) (hb : b < 3) (v : Int) : Has 6 (EP x y z x' y' z') (3 + a) (3 + b) v ↔ Has 3 (EA x' y' z') a b v := by
  constructor
  · rintro ⟨U, w, f, h1, h2⟩
    exact ⟨U, _, ap_right f, h1, h2⟩
  · rintro ⟨U, w, f, h1, h2⟩
    obtain ⟨U', w', f'⟩ := s
    obtain ⟨g1, g2⟩ := f'.same f
    refine ⟨_, _, ap_join g1 g2, ?_⟩
    have n1 : ¬ 3 + a < 3 := by omega
    have n2 : ¬ 3 + b < 3 := by omega
    simp only [if_neg n1, if_neg n2, show 3 + a - 3 = a by omega, show 3 + b - 3 = b by omega]
    rw [← Int.mul_add, Int.mul_comm U U', scale_lt f'.1, scale_le (b := 0) f'.1]
    exact ⟨h1, h2⟩
theorem mul_pos_lt {a b U : Int} (hU : 0 < U) (h : a * U < b * U) : a < b := Int.lt_of_mul_lt_mul_right h (Int.le_of_lt hU)
theorem ap_cross {a b : Nat} {lo hi lo' hi' : Int} (ha : a < 3) (hb : b < 3) (hl : lo < hi) (hl' : lo' < hi') (h : ∀ v, Has 3 (EA x y z) a a v ↔ lo ≤ v ∧ v < hi) (h' : ∀ v, Has 3 (EA x' y' z') b b v ↔ lo' ≤ v ∧ v < hi') (v : Int) :
    Has 6 (EP x y z x' y' z') a (3 + b) v ↔ (lo + lo').fdiv 2 ≤ v ∧ v ≤ (hi + hi' + 1).fdiv 2 - 1 := by
  have d2 : ∀ s t : Int, (s.fdiv 2 ≤ t ↔ s < 2 * t + 2) ∧ (t ≤ s.fdiv 2 ↔ 2 * t ≤ s) := fun s t => by
    obtain ⟨p, q⟩ := fdiv_bounds (x := s) (u := 2) (by decide)
    constructor <;> constructor <;> intro _ <;> omega
  have n1 : ¬ 3 + b < 3 := by omega
  have self : ∀ x y z : Int, ∀ i, EA x y z i i = none := fun x y z i => ent_self _ _
  constructor
  · rintro ⟨U, w, f, h1, h2⟩
    have hU := f.1
    have q1 := low_strict (i := a) ha (self x y z a) (fun v hv => ((h v).mp hv).1) (ap_left f)
    have q2 := low_strict (i := b) hb (self x' y' z' b) (fun v hv => ((h' v).mp hv).1) (ap_right f)
    have up : ∀ {x y z : Int} {w : Nat → Int} {i : Nat} {hi : Int}, Fit 3 (EA x y z) U w → (∀ v, Has 3 (EA x y z) i i v → v < hi) → 2 * w i < hi * U := fun {x y z w i hi} f hh => by
      obtain ⟨p1, p2⟩ := fdiv_bounds (x := w i + w i) hU
      have := hh ((w i + w i).fdiv U) ⟨U, w, f, p1, p2⟩
      have : ((w i + w i).fdiv U + 1) * U ≤ hi * U := Int.mul_le_mul_of_nonneg_right (by omega) (by omega)
      omega
    have q3 := up (i := a) (ap_left f) fun v hv => ((h v).mp hv).2
    have q4 := up (i := b) (ap_right f) fun v hv => ((h' v).mp hv).2
    have q2 : lo' * U < 2 * w (3 + b) := q2
    have q4 : 2 * w (3 + b) < hi' * U := q4
    have e1 : (lo + lo') * U = lo * U + lo' * U := Int.add_mul _ _ _
    have e2 : (hi + hi') * U = hi * U + hi' * U := Int.add_mul _ _ _
    have e3 : (2 * v + 2) * U = 2 * ((v + 1) * U) := by rw [show 2 * v + 2 = 2 * (v + 1) by omega, Int.mul_assoc]
    have e4 : 2 * v * U = 2 * (v * U) := Int.mul_assoc _ _ _
    have p1 : lo + lo' < 2 * v + 2 := mul_pos_lt hU (by omega)
    have p2 : 2 * v < hi + hi' := mul_pos_lt hU (by omega)
    rw [(d2 _ _).1]
    refine ⟨p1, ?_⟩
    have := (d2 (hi + hi' + 1) (v + 1)).2.mpr (by omega)
    omega
  · rintro ⟨h1, h2⟩
    rw [(d2 _ _).1] at h1
    have h2' : 2 * (v + 1) ≤ hi + hi' + 1 := (d2 _ _).2.mp (by omega)
    -- near the lower end
    obtain ⟨U1, w1, f1, a1, a2, a3⟩ := low_close (ent_symm (t3 x y z)) ha ((h lo).mpr ⟨by omega, hl⟩) 3 0 (by omega) (by omega)
    obtain ⟨U2, w2, f2, b1, b2, b3⟩ := low_close (ent_symm (t3 x' y' z')) hb ((h' lo').mpr ⟨by omega, hl'⟩) 3 0 (by omega) (by omega)
    obtain ⟨g1, g2⟩ := f1.same f2
    have hl1 : Has 6 (EP x y z x' y' z') a (3 + b) ((lo + lo').fdiv 2) := by
      refine ⟨_, _, ap_join g1 g2, ?_⟩
      simp only [if_pos ha, if_neg n1, show 3 + b - 3 = b by omega]
      have hU1 := f1.1
      have hU2 := f2.1
      obtain ⟨p, q⟩ := fdiv_bounds (x := lo + lo') (u := 2) (by decide)
      generalize (lo + lo').fdiv 2 = m at *
      have A1 := Int.mul_le_mul_of_nonneg_left a1 (Int.le_of_lt hU2)
      have A2 := Int.mul_le_mul_of_nonneg_left a2 (Int.le_of_lt hU2)
      have B1 := Int.mul_le_mul_of_nonneg_left b1 (Int.le_of_lt hU1)
      have B2 := Int.mul_le_mul_of_nonneg_left b2 (Int.le_of_lt hU1)
      have hP : 0 < U2 * U1 := Int.mul_pos hU2 hU1
      have c1 : U2 * (lo * U1) = lo * (U2 * U1) := (mul_swap lo U2 U1).symm
      have c2 : U1 * (lo' * U2) = lo' * (U2 * U1) := by rw [Int.mul_comm U2 U1]; exact (mul_swap lo' U1 U2).symm
      have c3 : U2 * (3 * (2 * w1 a - lo * U1)) = 6 * (U2 * w1 a) - 3 * (U2 * (lo * U1)) := by
        rw [show 3 * (2 * w1 a - lo * U1) = 6 * w1 a - 3 * (lo * U1) by omega, Int.mul_sub, mul_swap U2 6, mul_swap U2 3]
      have c4 : U1 * (3 * (2 * w2 b - lo' * U2)) = 6 * (U1 * w2 b) - 3 * (U1 * (lo' * U2)) := by
        rw [show 3 * (2 * w2 b - lo' * U2) = 6 * w2 b - 3 * (lo' * U2) by omega, Int.mul_sub, mul_swap U1 6, mul_swap U1 3]
      have c5 : U2 * (2 * w1 a) = 2 * (U2 * w1 a) := mul_swap _ _ _
      have c6 : U1 * (2 * w2 b) = 2 * (U1 * w2 b) := mul_swap _ _ _
      have c7 : U1 * U2 = U2 * U1 := Int.mul_comm _ _
      rw [c1, c5] at A1
      rw [c2, c6] at B1
      rw [c3, c1] at A2
      rw [c4, c2, c7] at B2
      generalize U2 * U1 = P at *
      generalize U2 * w1 a = p1 at *
      generalize U1 * w2 b = p2 at *
      have e1 : lo * P + lo' * P = (lo + lo') * P := (Int.add_mul _ _ _).symm
      have e2 : m * 2 * P ≤ (lo + lo') * P := Int.mul_le_mul_of_nonneg_right p (by omega)
      have e3 : (lo + lo' + 1) * P ≤ (m + 1) * 2 * P := Int.mul_le_mul_of_nonneg_right (by omega) (by omega)
      have e4 : m * 2 * P = 2 * (m * P) := by rw [Int.mul_comm m 2, Int.mul_assoc]
      have e5 : (m + 1) * 2 * P = 2 * ((m + 1) * P) := by rw [Int.mul_comm (m + 1) 2, Int.mul_assoc]
      rw [Int.add_mul _ 1, Int.one_mul] at e3
      constructor <;> omega
    -- near the upper end
    obtain ⟨U3, w3, f3, a4, a5, a6⟩ := high_close (ent_symm (t3 x y z)) ha ((h (hi - 1)).mpr ⟨by omega, by omega⟩) 3 0 (by omega) (by omega)
    obtain ⟨U4, w4, f4, b4, b5, b6⟩ := high_close (ent_symm (t3 x' y' z')) hb ((h' (hi' - 1)).mpr ⟨by omega, by omega⟩) 3 0 (by omega) (by omega)
    obtain ⟨g3, g4⟩ := f3.same f4
    rw [show hi - 1 + 1 = hi by omega] at a4 a5
    rw [show hi' - 1 + 1 = hi' by omega] at b4 b5
    have hh1 : Has 6 (EP x y z x' y' z') a (3 + b) ((hi + hi' + 1).fdiv 2 - 1) := by
      refine ⟨_, _, ap_join g3 g4, ?_⟩
      simp only [if_pos ha, if_neg n1, show 3 + b - 3 = b by omega]
      have hU1 := f3.1
      have hU2 := f4.1
      obtain ⟨p, q⟩ := fdiv_bounds (x := hi + hi' + 1) (u := 2) (by decide)
      generalize (hi + hi' + 1).fdiv 2 = m at *
      have A1 := Int.mul_lt_mul_of_pos_left a4 hU2
      have A2 := Int.mul_le_mul_of_nonneg_left a5 (Int.le_of_lt hU2)
      have B1 := Int.mul_lt_mul_of_pos_left b4 hU1
      have B2 := Int.mul_le_mul_of_nonneg_left b5 (Int.le_of_lt hU1)
      have hP : 0 < U4 * U3 := Int.mul_pos hU2 hU1
      have c1 : U4 * (hi * U3) = hi * (U4 * U3) := (mul_swap hi U4 U3).symm
      have c2 : U3 * (hi' * U4) = hi' * (U4 * U3) := by rw [Int.mul_comm U4 U3]; exact (mul_swap hi' U3 U4).symm
      have c3 : U4 * (3 * (hi * U3 - 2 * w3 a)) = 3 * (U4 * (hi * U3)) - 6 * (U4 * w3 a) := by
        rw [show 3 * (hi * U3 - 2 * w3 a) = 3 * (hi * U3) - 6 * w3 a by omega, Int.mul_sub, mul_swap U4 6, mul_swap U4 3]
      have c4 : U3 * (3 * (hi' * U4 - 2 * w4 b)) = 3 * (U3 * (hi' * U4)) - 6 * (U3 * w4 b) := by
        rw [show 3 * (hi' * U4 - 2 * w4 b) = 3 * (hi' * U4) - 6 * w4 b by omega, Int.mul_sub, mul_swap U3 6, mul_swap U3 3]
      have c5 : U4 * (2 * w3 a) = 2 * (U4 * w3 a) := mul_swap _ _ _
      have c6 : U3 * (2 * w4 b) = 2 * (U3 * w4 b) := mul_swap _ _ _
      have c7 : U3 * U4 = U4 * U3 := Int.mul_comm _ _
      rw [c1, c5] at A1
      rw [c2, c6] at B1
      rw [c3, c1] at A2
      rw [c4, c2, c7] at B2
      generalize U4 * U3 = P at *
      generalize U4 * w3 a = p1 at *
      generalize U3 * w4 b = p2 at *
      have e1 : hi * P + hi' * P = (hi + hi') * P := (Int.add_mul _ _ _).symm
      have e2 : (m * 2 - 1) * P ≤ (hi + hi') * P := Int.mul_le_mul_of_nonneg_right (by omega) (by omega)
      have e3 : (hi + hi') * P ≤ m * 2 * P := Int.mul_le_mul_of_nonneg_right (by omega) (by omega)
      have e4 : m * 2 * P = 2 * (m * P) := by rw [Int.mul_comm m 2, Int.mul_assoc]
      rw [Int.sub_mul, Int.one_mul] at e2
      have e5 : (m - 1) * P = m * P - P := by rw [Int.sub_mul, Int.one_mul]
      have e6 : (m - 1 + 1) * P = m * P := by rw [show m - 1 + 1 = m by omega]
      rw [e5, e6]
      constructor <;> omega
    exact has_mid hl1 hh1 (by have := (d2 (lo + lo') v).1.mpr h1; omega) h2
end
end PW
/-! PLx: results by evaluation; small lemmas for laws. -/
namespace PW
open DL MA
def isT : Option D → Bool
  | some (.bl true) => true
  | _ => false
def isF : Option D → Bool
  | some (.bl false) => true
  | _ => false
def isN : Option D → Bool
  | some .non => true
  | _ => false
theorem isT_eq {o : Option D} (h : isT o = true) : o = some (.bl true) := by
  unfold isT at h
  split at h
  · rfl
  · cases h
theorem isF_eq {o : Option D} (h : isF o = true) : o = some (.bl false) := by
  unfold isF at h
  split at h
  · rfl
  · cases h
theorem isN_eq {o : Option D} (h : isN o = true) : o = some .non := by
  unfold isN at h
  split at h
  · rfl
  · cases h
def isNN : Option D → Bool
  | some (.tup [.non, .non]) => true
  | _ => false
theorem isNN_eq {o : Option D} (h : isNN o = true) : o = some (.tup [.non, .non]) := by
  unfold isNN at h
  split at h
  · rfl
  · cases h
def isI2 (a b : Int) : Option D → Bool
  | some (.tup [.int x, .int y]) => decide (x = a) && decide (y = b)
  | _ => false
theorem isI2_eq {a b : Int} {o : Option D} (h : isI2 a b o = true) : o = some (.tup [.int a, .int b]) := by
  unfold isI2 at h
  split at h
  · rw [Bool.and_eq_true, decide_eq_true_eq, decide_eq_true_eq] at h
    obtain ⟨rfl, rfl⟩ := h
    rfl
  · cases h
def isI (a : Int) : Option D → Bool
  | some (.int x) => decide (x = a)
  | _ => false
theorem isI_eq {a : Int} {o : Option D} (h : isI a o = true) : o = some (.int a) := by
  unfold isI at h
  split at h
  · rw [decide_eq_true_eq] at h
    rw [h]
  · cases h
theorem at0 (x y : D) : L2.atI [x, y] 0 = some x := rfl
theorem at1 (x y : D) : L2.atI [x, y] 1 = some y := rfl
theorem bool_of {b : Bool} {P : Prop} (h : b = true ↔ P) (hn : ¬ P) : b = false := by
  cases b with
  | false => rfl
  | true => exact absurd (h.mp rfl) hn
theorem small6 {u : Int} (h1 : 1 ≤ u) (h6 : u ≤ 6) : small30 u = true := by
  have : u = 1 ∨ u = 2 ∨ u = 3 ∨ u = 4 ∨ u = 5 ∨ u = 6 := by omega
  rcases this with h | h | h | h | h | h <;> subst h <;> decide
end PW
/-! PL20: bounds of a weight by all triples; further entries of a parcel with itself. -/
namespace PW
open DL MA
theorem copyT_whl {T : Tab} {p : Nat} {v : Int} (hT : Shp T) (hw : Whl T) (hp : p < T.length + 1) : Whl (copyT T p (some v)) := fun a b hab ha hb => by
  rw [copyT_len] at ha hb
  have key : ∀ a b, a < b → b ≤ T.length + 1 → ∃ i, ent (copyT T p (some v)) a b = some i := fun a b h hb => by
    rw [copyT_lt hT h hb]
    split
    · unfold cpLast
      split
      · exact ⟨v, rfl⟩
      · exact hw p a (by omega) (by omega) (by omega)
    · exact hw a b (by omega) (by omega) (by omega)
  rcases Nat.lt_or_gt_of_ne hab with h | h
  · exact key a b h hb
  · rw [ent_symm]
    exact key b a h ha
theorem pl_out {T : Tab} {k l : Nat} (h : T.length ≤ k ∨ (T.getD k []).length ≤ l) : pl T k l = none := by
  unfold pl
  rcases h with h | h
  · rw [show T.getD k [] = [] by rw [List.getD_eq_getElem?_getD, List.getElem?_eq_none h]; rfl]
    rfl
  · rw [List.getD_eq_getElem?_getD, List.getElem?_eq_none h]
    rfl
/-- tables with the same entries are the same -/
theorem tab_eq {T T' : Tab} (h : Shp T) (h' : Shp T') (hl : T'.length = T.length) (he : ∀ a b, a < b → b ≤ T.length → ent T' a b = ent T a b) : T' = T := by
  refine tab_ext h h' hl fun i j => ?_
  by_cases hi : i < T.length
  · by_cases hj : j < T.length - i
    · have := he i (i + j + 1) (by omega) (by omega)
      rw [ent_pl, ent_pl, if_pos (by omega), if_pos (by omega), show i + j + 1 - i - 1 = j by omega] at this
      exact this
    · rw [pl_out (T := T') (.inr (by rw [h'.2 i (by omega), hl]; omega)), pl_out (T := T) (.inr (by rw [h.2 i hi]; omega))]
  · rw [pl_out (T := T') (.inl (by omega)), pl_out (T := T) (.inl (by omega))]
/-- what twice a weight can be, by all triples -/
theorem self_triples {T : Tab} {p : Nat} (hT : Shp T) (hw : Whl T) (hl : T.length < 900) (hs : Sol (T.length + 1) (ent T)) (hp : p < T.length + 1) (v : Int) : Has (T.length + 1) (ent T) p p v ↔ ∀ a b, Oth (T.length + 1) p p a → Oth (T.length + 1) p p b → a ≠ b → fstT T p p a b - 1 ≤ v ∧ v ≤ fstT T p p a b + 1 := by
  obtain ⟨v0, h0⟩ := has_some hs p p
  obtain ⟨n, hn⟩ : ∃ n, n = T.length + 1 := ⟨_, rfl⟩
  have hC := copyT_shp (p := p) (o := some v0) hT (by omega)
  have hwC := copyT_whl (v := v0) hT hw hp
  have hlC := copyT_len T p (some v0)
  have hrC : ∀ q, ¬ Bad (copyT T p (some v0)) q := (real_sol hwC).mpr (by rw [hlC]; exact (copy_sol hT hp v0).mpr h0)
  have e : copyT T p (some v) = putT (copyT T p (some v0)) p (T.length + 1 - p - 1) (some v) := by
    refine tab_eq (putT_shp hC (by omega)) (copyT_shp hT (by omega)) (by rw [putT_len, copyT_len, copyT_len]) fun a b hab hb => ?_
    rw [putT_len, hlC] at hb
    rw [ent_putT hC (by omega) (by omega), copyT_lt hT hab hb, copyT_lt hT hab hb]
    by_cases c : b = T.length + 1
    · rw [if_pos c, if_pos c]
      unfold cpLast
      by_cases d : a = p
      · rw [if_pos d, if_pos (.inl ⟨d, c⟩)]
      · rw [if_neg d, if_neg d, if_neg (by omega)]
    · rw [if_neg c, if_neg c, if_neg (by omega)]
  have hwV := copyT_whl (v := v) hT hw hp
  rw [← copy_sol hT hp v, show T.length + 1 + 1 = (copyT T p (some v)).length + 1 by rw [copyT_len], ← real_sol hwV, e, real_put hC (by omega) (by omega) hrC v, hlC]
  have hva : ∀ a b, a ≤ T.length → b ≤ T.length → va (copyT T p (some v0)) a b = va T a b := fun a b ha hb => by
    unfold va
    rw [copyT_old hT ha hb]
  have hvn : ∀ b, b ≤ T.length → b ≠ p → va (copyT T p (some v0)) (T.length + 1) b = va T p b := fun b hb hbp => by
    unfold va
    rw [ent_symm, copyT_new hT hb]
    unfold cpLast
    rw [if_neg hbp]
  have hf : ∀ a b, a ≤ T.length → b ≤ T.length → b ≠ p → fstT (copyT T p (some v0)) p (T.length + 1) a b = fstT T p p a b := fun a b ha hb hbp => by
    unfold fstT
    rw [hva p a (by omega) ha, hvn b hb hbp, hva a b ha hb]
  constructor
  · intro h a b ⟨ha, ha1, _⟩ ⟨hb, hb1, _⟩ hab
    rw [← hf a b (by omega) (by omega) hb1]
    exact h a b ⟨by omega, ha1, by omega⟩ ⟨by omega, hb1, by omega⟩ hab
  · intro h a b ⟨ha, ha1, ha2⟩ ⟨hb, hb1, hb2⟩ hab
    rw [hf a b (by omega) (by omega) hb1]
    exact h a b ⟨by omega, ha1, ha1⟩ ⟨by omega, hb1, hb1⟩ hab
/-! ### the law's own bounds -/
def smP (T : Tab) (p : Nat) (q : Nat × Nat) : Int := va T p q.1 + va T p q.2 - va T q.1 q.2
def sumsD (T : Tab) (p : Nat) (ps : List (Nat × Nat)) : Slot := .lst ((ps.map (smP T p)).map D.int)
theorem trip_b0 {T : Tab} {p a b : Nat} {ps : List (Nat × Nat)} {s2 s4 s7 : Slot} (hT : Shp T) (hw : Whl T) (hp : p < T.length + 1) (ha : Oth (T.length + 1) p p a) (hb : Oth (T.length + 1) p p b) (hab : a ≠ b) (hl : ps.length ≤ 1000) :
    ∃ x, ex (phi [G__law_entry]) cs b__law_triples_0 [.val (tabD T), .val (.int p), s2, sumsD T p ps, s4, .val (.int a), .val (.int b), s7] = some (.nx [.val (tabD T), .val (.int p), s2, sumsD T p (ps ++ [(a, b)]), s4, .val (.int a), .val (.int b), x]) := by
  obtain ⟨ha1, ha2, _⟩ := ha
  obtain ⟨hb1, hb2, _⟩ := hb
  have key : ∀ x y, x ≠ y → x < T.length + 1 → y < T.length + 1 → G__law_entry [tabD T, .int x, .int y] = some (.int (va T x y)) := fun x y h1 h2 h3 => by
    rw [law_entry_eq hT (by omega) (by omega), hw.at h1 (by omega) (by omega)]
    rfl
  have k1 := key p a (by omega) hp ha1
  have k2 := key p b (by omega) hp hb1
  have k3 := key a b hab ha1 hb1
  have hl' : ((ps.map (smP T p)).map D.int).length ≤ 100000 := by rw [List.length_map, List.length_map]; omega
  refine ⟨.val (.int (va T p a + va T p b)), ?_⟩
  have e : sumsD T p (ps ++ [(a, b)]) = .lst ((ps.map (smP T p)).map D.int ++ [.int (va T p a + va T p b - va T a b)]) := by
    unfold sumsD
    rw [List.map_append, List.map_append]
    rfl
  rw [e]
  unfold sumsD
  generalize (ps.map (smP T p)).map D.int = L at *
  generalize tabD T = A at *
  unfold b__law_triples_0
  simp [k1, k2, k3, appS, lim, hl']
theorem trip_b1 {T : Tab} {p a t : Nat} {xs : List Nat} {ps : List (Nat × Nat)} {s6 s7 : Slot} (hT : Shp T) (hw : Whl T) (hp : p < T.length + 1) (ha : Oth (T.length + 1) p p a) (hx : ∀ b, b ∈ xs.drop (t + 1) → Oth (T.length + 1) p p b ∧ a ≠ b) (hxl : xs.length ≤ 20) (hl : ps.length ≤ 900) :
    ∃ v x, ex (phi [G__law_entry]) cs b__law_triples_1 [.val (tabD T), .val (.int p), .val (.lst (xs.map natD)), sumsD T p ps, .val (.int t), .val (.int a), s6, s7] = some (.nx [.val (tabD T), .val (.int p), .val (.lst (xs.map natD)), sumsD T p (ps ++ (xs.drop (t + 1)).map fun b => (a, b)), .val (.int t), .val (.int a), v, x]) := by
  obtain ⟨ys, hys⟩ : ∃ ys, ys = xs.drop (t + 1) := ⟨_, rfl⟩
  have hyl : ys.length ≤ 20 := by rw [hys, List.length_drop]; omega
  have hit : slAD (.lst (xs.map natD)) (.int ((t : Int) + 1)) = some (.lst (ys.map natD)) := by
    rw [hys, ← cutD_from, show ((t + 1 : Nat) : Int) = (t : Int) + 1 by omega]
    rfl
  rw [← hys] at hx
  obtain ⟨st, h1, v, x, e⟩ := loop_go (Φ := phi [G__law_entry]) (cs := cs) (body := b__law_triples_0) (j := 6) (ds := ys.map natD) (st := [.val (tabD T), .val (.int p), .val (.lst (xs.map natD)), sumsD T p ps, .val (.int t), .val (.int a), s6, s7])
    (fun k st => ∃ v x, st = [.val (tabD T), .val (.int p), .val (.lst (xs.map natD)), sumsD T p (ps ++ (ys.take k).map fun b => (a, b)), .val (.int t), .val (.int a), v, x]) ⟨s6, s7, by rw [List.take_zero, List.map_nil, List.append_nil]⟩ (fun k st ⟨v, x, e⟩ => by rw [e]; exact (by decide : 6 < 8)) fun k hk st ⟨v, x, e⟩ => by
      subst e
      have hk' : k < ys.length := by rw [List.length_map] at hk; exact hk
      obtain ⟨o1, o2⟩ := hx ys[k] (List.getElem_mem hk')
      obtain ⟨x', h⟩ := trip_b0 (T := T) (p := p) (a := a) (b := ys[k]) (ps := ps ++ (ys.take k).map fun b => (a, b)) (s2 := .val (.lst (xs.map natD))) (s4 := .val (.int t)) (s7 := x) hT hw hp ha o1 o2 (by rw [List.length_append, List.length_map, List.length_take]; omega)
      refine ⟨_, by rw [List.getElem_map]; exact h, .val (.int ((ys[k] : Nat) : Int)), x', ?_⟩
      rw [List.take_add_one, List.getElem?_eq_getElem hk', List.map_append, ← List.append_assoc]
      rfl
  subst e
  rw [List.length_map, List.take_length] at h1
  refine ⟨v, x, ?_⟩
  rw [← hys]
  generalize sumsD T p ps = SL at *
  generalize sumsD T p (ps ++ ys.map fun b => (a, b)) = SL2 at *
  generalize ys.map natD = Y at *
  generalize xs.map natD = X at *
  unfold b__law_triples_1
  simp [hit, h1]
theorem triples_eq {T : Tab} {p : Nat} (hT : Shp T) (hw : Whl T) (hp : p < T.length + 1) (h3 : 3 ≤ T.length + 1) (h12 : T.length + 1 ≤ 12) :
    ∃ lo hi, G__law_triples [tabD T, .int p] = some (.tup [.int lo, .int hi]) ∧ ∀ v, lo ≤ v ∧ v < hi ↔ ∀ a b, Oth (T.length + 1) p p a → Oth (T.length + 1) p p b → a ≠ b → fstT T p p a b - 1 ≤ v ∧ v ≤ fstT T p p a b + 1 := by
  obtain ⟨n, hn⟩ : ∃ n, n = T.length + 1 := ⟨_, rfl⟩
  have hn' : (T.length : Int) + 1 = (n : Int) := by omega
  obtain ⟨xs, hxs⟩ : ∃ xs, xs = othL n p p := ⟨_, rfl⟩
  have hxl : xs.length ≤ 12 := by have := othL_len n p p; rw [hxs]; omega
  rw [← hn]
  obtain ⟨st, h1, t4, t5, t6, t7, e⟩ := loop_goP (Φ := phi [G__law_entry]) (cs := cs) (body := b__law_triples_1) (tg := [4, 5]) (ds := enmL 0 (xs.map natD)) (st := [.val (tabD T), .val (.int p), .val (.lst (xs.map natD)), sumsD T p [], .und, .und, .und, .und])
    (fun k st => ∃ t4 t5 t6 t7, st = [.val (tabD T), .val (.int p), .val (.lst (xs.map natD)), sumsD T p (pairsTo xs k), t4, t5, t6, t7]) ⟨_, _, _, _, rfl⟩ fun k hk st ⟨t4, t5, t6, t7, e⟩ => by
      subst e
      have hk' : k < xs.length := by rw [enmL_len, List.length_map] at hk; exact hk
      have hg : xs.getD k 0 = xs[k] := by rw [List.getD_eq_getElem?_getD, List.getElem?_eq_getElem hk']; rfl
      have ho : Oth (T.length + 1) p p xs[k] := by
        rw [← hn]
        apply mem_othL.mp
        rw [← hxs]
        exact List.getElem_mem hk'
      have hpl := pairsTo_len xs k
      have hpl2 : k * xs.length ≤ 12 * 12 := Nat.mul_le_mul (by omega) hxl
      obtain ⟨v, x, h⟩ := trip_b1 (T := T) (p := p) (a := xs[k]) (t := k) (xs := xs) (ps := pairsTo xs k) (s6 := t6) (s7 := t7) hT hw hp ho (fun b hb => by
        have : b ∈ (othL n p p).drop (k + 1) := by rw [← hxs]; exact hb
        have := oth_drop this
        rw [← hxs, hg, hn] at this
        exact ⟨this.1, by omega⟩) (by omega) (by omega)
      rw [← hg, ← pairsTo_succ] at h
      refine ⟨_, _, ?_, h, .val (.int (k : Int)), .val (.int ((xs.getD k 0 : Nat) : Int)), v, x, rfl⟩
      rw [enmL_get hk, List.getElem_map, Nat.zero_add, hg]
      rfl
  subst e
  rw [enmL_len, List.length_map] at h1
  obtain ⟨ps, hps⟩ : ∃ ps, ps = pairsTo xs xs.length := ⟨_, rfl⟩
  rw [← hps] at h1
  have mem1 : ∀ a b, (a, b) ∈ ps → Oth n p p a ∧ Oth n p p b ∧ a < b := fun a b h => by
    rw [hps] at h
    obtain ⟨t, h1, h2, h3⟩ := mem_pairsTo.mp h
    rw [hxs] at h2 h3 h1
    have := oth_drop h3
    refine ⟨?_, this.1, by omega⟩
    rw [h2]
    exact mem_othL.mp (getD_mem h1)
  have mem2 : ∀ a b, Oth n p p a → Oth n p p b → a < b → (a, b) ∈ ps := fun a b h1 h2 h3 => by
    rw [hps, hxs]
    exact oth_pairs h1 h2 h3
  have two : ∃ a b, Oth n p p a ∧ Oth n p p b ∧ a < b := by
    unfold Oth
    by_cases i0 : p = 0
    · exact ⟨1, 2, by omega, by omega, by omega⟩
    · by_cases i1 : p = 1
      · exact ⟨0, 2, by omega, by omega, by omega⟩
      · exact ⟨0, 1, by omega, by omega, by omega⟩
  obtain ⟨a0, b0, ha0, hb0, hab0⟩ := two
  have hp0 := mem2 a0 b0 ha0 hb0 hab0
  have hne : ps.map (smP T p) ≠ [] := fun z => by
    rw [List.map_eq_nil_iff] at z
    rw [z] at hp0
    cases hp0
  obtain ⟨mx, hmx⟩ := maxI_some hne
  obtain ⟨mn, hmn⟩ := minI_some hne
  obtain ⟨x1, x2⟩ := maxI_spec _ _ hmx
  obtain ⟨y1, y2⟩ := minI_spec _ _ hmn
  have qmx := maxD_l (ps.map (smP T p))
  have qmn := minD_l (ps.map (smP T p))
  rw [hmx] at qmx
  rw [hmn] at qmn
  refine ⟨mx - 1, mn + 2, ?_, fun v => ?_⟩
  · have r2 : r62 (n : Int) = true := r62_of (by omega) (by omega)
    have c1 : ∀ (ρ : Env), ρ[0]? = some (some (tabD T)) → ρ[1]? = some (some (.int p)) → 8 ≤ ρ.length → ev (phi [G__law_entry]) cs (.comp [5] [5] false (.rng1 (.bin .add (.blt .len (.cons (.var 0) .nil)) (.int 1))) (.cmp .ne (.var 5) (.var 1)) (.var 5)) ρ = some (.lst (xs.map natD)) := by
      intro ρ e0 e1 hlen
      rw [hxs]
      refine comp_filter (g := fun k : Nat => D.int (k : Int)) (h := natD) (xs := List.range n) (p := fun k => decide (k ≠ p ∧ k ≠ p)) ?_ (by rw [List.length_range]; omega) (fun k hk => ?_) (fun k hk _ => ?_)
      · simp [e0, lenD_tab, hn', r2, rngD_nat0]
      · have e3 : (!decide ((k : Int) = (p : Int))) = decide (k ≠ p ∧ k ≠ p) := by
          by_cases c : k = p
          · rw [c, decide_eq_true rfl, decide_eq_false (by omega)]
            rfl
          · rw [decide_eq_false (by omega), decide_eq_true ⟨c, c⟩]
            rfl
        simp only [ev_cmp, ev_var, cmpD_ne]
        simp only [wipeE_cons, wipeE_nil, List.getElem?_set, List.length_set]
        simp only [show 5 < ρ.length by omega, e1, if_true, if_false, show ¬ (5 = 1) by omega, Option.getD_some, op2_s, neD_i, e3]
      · simp [show 5 < ρ.length by omega, natD]
    have eL : sumsD T p [] = .lst [] := rfl
    rw [eL] at h1
    unfold sumsD at h1
    generalize (ps.map (smP T p)).map D.int = LL at *
    have he : enmD (.lst (xs.map natD)) = some (.lst (enmL 0 (xs.map natD))) := rfl
    generalize enmL 0 (xs.map natD) = EE at *
    generalize xs.map natD = X at *
    unfold G__law_triples runF m__law_triples
    simp [startS, c1, he, h1, qmx, qmn, lim]
  · have sy := va_symm T
    constructor
    · rintro ⟨h1, h2⟩ a b ha hb hab
      unfold fstT
      by_cases c : a < b
      · have q := mem2 a b ha hb c
        have q1 := x2 (smP T p (a, b)) (List.mem_map.mpr ⟨_, q, rfl⟩)
        have q2 := y2 (smP T p (a, b)) (List.mem_map.mpr ⟨_, q, rfl⟩)
        unfold smP at q1 q2
        dsimp only at q1 q2
        omega
      · have q := mem2 b a hb ha (by omega)
        have q1 := x2 (smP T p (b, a)) (List.mem_map.mpr ⟨_, q, rfl⟩)
        have q2 := y2 (smP T p (b, a)) (List.mem_map.mpr ⟨_, q, rfl⟩)
        unfold smP at q1 q2
        dsimp only at q1 q2
        have := sy a b
        omega
    · intro h
      obtain ⟨⟨a, b⟩, q1, q2⟩ := List.mem_map.mp x1
      obtain ⟨⟨c, d⟩, q3, q4⟩ := List.mem_map.mp y1
      obtain ⟨o1, o2, o3⟩ := mem1 a b q1
      obtain ⟨o4, o5, o6⟩ := mem1 c d q3
      have w1 := h a b o1 o2 (by omega)
      have w3 := h c d o4 o5 (by omega)
      unfold fstT at w1 w3
      unfold smP at q2 q4
      dsimp only at q2 q4
      omega
/-! ### a further entry of a parcel with itself, of a pair -/
theorem e2_self {T : Tab} {p : Nat} (v : Int) (a b : Nat) : e2 T [(((p : Int), (p : Int)), v)] a b = if a = p ∧ b = p then some v else ent T a b := by
  unfold e2 dlook
  by_cases c : a = p ∧ b = p
  · obtain ⟨rfl, rfl⟩ := c
    simp
  · have : ¬ (((p : Int), (p : Int)) = ((a : Int), (b : Int))) := fun z => c (by rw [Prod.mk.injEq] at z; omega)
    simp [this, c]
theorem sol_self {T : Tab} {p n : Nat} (hp : p < n) (v : Int) : Sol n (e2 T [(((p : Int), (p : Int)), v)]) ↔ Has n (ent T) p p v := by
  constructor
  · rintro ⟨U, w, f⟩
    refine ⟨U, w, ⟨f.1, fun a b x ha hb e => f.2 a b x ha hb ?_⟩, f.2 p p v hp hp (by rw [e2_self, if_pos ⟨rfl, rfl⟩])⟩
    rw [e2_self, if_neg]
    · exact e
    · rintro ⟨rfl, rfl⟩
      rw [ent_self] at e
      cases e
  · rintro ⟨U, w, f, h1, h2⟩
    refine ⟨U, w, f.1, fun a b x ha hb e => ?_⟩
    rw [e2_self] at e
    split at e
    · rename_i c
      obtain ⟨rfl, rfl⟩ := c
      cases e
      exact ⟨h1, h2⟩
    · exact f.2 a b x ha hb e
theorem fits_self {T : Tab} {p : Nat} (hT : Shp T) (h12 : T.length + 1 ≤ 12) (hp : p < T.length + 1) (v : Int) : ∃ b, G__law_fits [tabD T, .dic [(((p : Int), (p : Int)), v)]] = some (.bl b) ∧ (b = true ↔ Has (T.length + 1) (ent T) p p v) := by
  obtain ⟨b, h1, h2⟩ := law_fits_iff (m := [(((p : Int), (p : Int)), v)]) hT h12 (fun a c => by
    rw [e2_self, e2_self, ent_symm]
    by_cases q : a = p ∧ c = p
    · rw [if_pos q, if_pos ⟨q.2, q.1⟩]
    · rw [if_neg q, if_neg fun z => q ⟨z.2, z.1⟩])
  exact ⟨b, h1, h2.trans (sol_self hp v)⟩
theorem fits_nil {T : Tab} (hT : Shp T) (h12 : T.length + 1 ≤ 12) : ∃ b, G__law_fits [tabD T, .dic []] = some (.bl b) ∧ (b = true ↔ Sol (T.length + 1) (ent T)) := by
  obtain ⟨b, h1, h2⟩ := law_fits_iff (m := []) hT h12 (by rw [e2_nil]; exact ent_symm T)
  rw [e2_nil] at h2
  exact ⟨b, h1, h2⟩
/-- the floor is below the upper bound -/
theorem high_strict {n : Nat} {E : MA.Fn} {i : Nat} {hi : Int} (h : ∀ v, Has n E i i v → v < hi) {U : Int} {w : Nat → Int} (f : Fit n E U w) : 2 * w i < hi * U := by
  have hU := f.1
  obtain ⟨p1, p2⟩ := fdiv_bounds (x := w i + w i) hU
  have := h ((w i + w i).fdiv U) ⟨U, w, f, p1, p2⟩
  have : ((w i + w i).fdiv U + 1) * U ≤ hi * U := Int.mul_le_mul_of_nonneg_right (by omega) (by omega)
  omega
end PW
/-! PL21: _law_has; heads and tails of statements. -/
namespace PW
open DL MA
def hd : DL.S → DL.S
  | .seq a _ => a
  | s => s
def tl : DL.S → DL.S
  | .seq _ b => b
  | s => s
theorem fdiv_of {x v U : Int} (hU : 0 < U) (h1 : v * U ≤ x) (h2 : x < (v + 1) * U) : x.fdiv U = v := by
  obtain ⟨p, q⟩ := fdiv_bounds (x := x) hU
  have a1 : x.fdiv U < v + 1 := mul_pos_lt hU (by omega)
  have a2 : v < x.fdiv U + 1 := mul_pos_lt hU (by omega)
  omega
theorem has_b0 {T : Tab} {u : Int} {ws : List Int} {a b : Nat} {s5 : Slot} (hT : Shp T) (hl : ws.length = T.length + 1) (hu : small30 u = true) (f : Fit (T.length + 1) (ent T) u (dg ws)) (hab : a < b) (hb : b < ws.length) :
    ∃ x, ex (phi [G__law_entry]) cs b__law_has_0 [.val (tabD T), .val (.int u), .val (.tup (ws.map D.int)), .val (.int a), .val (.int b), s5] = some (.nx [.val (tabD T), .val (.int u), .val (.tup (ws.map D.int)), .val (.int a), .val (.int b), x]) := by
  have he := law_entry_eq hT (a := a) (b := b) (by omega) (by omega)
  have d1 : L2.atI (ws.map D.int) (a : Int) = some (.int (dg ws a)) := dig_at (by omega)
  have d2 : L2.atI (ws.map D.int) (b : Int) = some (.int (dg ws b)) := dig_at (by omega)
  cases e : ent T a b with
  | none =>
    rw [e] at he
    refine ⟨.val .non, ?_⟩
    unfold b__law_has_0
    simp [he, isNonD]
  | some v =>
    rw [e] at he
    obtain ⟨h1, h2⟩ := f.2 a b v (by omega) (by omega) e
    have hd := fdiv_of f.1 h1 h2
    refine ⟨.val (.int v), ?_⟩
    unfold b__law_has_0
    simp [he, isNonD, d1, d2, hu, hd]
theorem has_ok {T : Tab} {u : Int} {ws : List Int} (hT : Shp T) (hl : ws.length = T.length + 1) (hu : small30 u = true) (f : Fit (T.length + 1) (ent T) u (dg ws)) : G__law_has [tabD T, .int u, .tup (ws.map D.int)] = some (.bl true) := by
  have h1000 := hT.1
  have L : ∀ (a : Nat) (x y : Slot), a < ws.length → ∃ x' y', ex (phi [G__law_entry]) cs b__law_has_1 [.val (tabD T), .val (.int u), .val (.tup (ws.map D.int)), .val (.int a), x, y] = some (.nx [.val (tabD T), .val (.int u), .val (.tup (ws.map D.int)), .val (.int a), x', y']) := by
    intro a x y ha
    obtain ⟨st', h1, x', y', e⟩ := loop_rng (Φ := phi [G__law_entry]) (cs := cs) (body := b__law_has_0) (j := 4) (a := a + 1) (b := ws.length) (st := [.val (tabD T), .val (.int u), .val (.tup (ws.map D.int)), .val (.int a), x, y]) (by omega)
      (fun k st => ∃ x y, st = [.val (tabD T), .val (.int u), .val (.tup (ws.map D.int)), .val (.int a), x, y]) ⟨x, y, rfl⟩ (fun k st ⟨x, y, e⟩ => by rw [e]; exact (by decide : 4 < 6)) fun k hk hk2 st ⟨x, y, e⟩ => by
        subst e
        obtain ⟨z, h⟩ := has_b0 (a := a) (b := k) (s5 := y) hT hl hu f (by omega) hk2
        exact ⟨_, h, _, z, rfl⟩
    subst e
    refine ⟨x', y', ?_⟩
    have r1 : r62 ((a : Int) + 1) = true := r62_of (by omega) (by omega)
    have r2 : r62 (ws.length : Int) = true := r62_of (by omega) (by omega)
    rw [show ((a + 1 : Nat) : Int) = (a : Int) + 1 by omega] at h1
    unfold b__law_has_1
    simp [r1, r2, h1]
  obtain ⟨st', h1, x, y, z, e⟩ := loop_rng (Φ := phi [G__law_entry]) (cs := cs) (body := b__law_has_1) (j := 3) (a := 0) (b := ws.length) (st := [.val (tabD T), .val (.int u), .val (.tup (ws.map D.int)), .und, .und, .und]) (Nat.zero_le _)
    (fun k st => ∃ x y z, st = [.val (tabD T), .val (.int u), .val (.tup (ws.map D.int)), x, y, z]) ⟨_, _, _, rfl⟩ (fun k st ⟨x, y, z, e⟩ => by rw [e]; exact (by decide : 3 < 6)) fun k _ hk st ⟨x, y, z, e⟩ => by
      subst e
      obtain ⟨x', y', h⟩ := L k y z hk
      exact ⟨_, h, _, _, _, rfl⟩
  subst e
  have r2 : r62 (ws.length : Int) = true := r62_of (by omega) (by omega)
  rw [show ((0 : Nat) : Int) = 0 from rfl] at h1
  unfold G__law_has runF m__law_has
  simp [startS, r2, h1]
end PW
/-! K09p: the ninth law, plain. -/
namespace K09
open DL MA PW
abbrev Ph := phi [G_solution, G__law_digits, G__law_weights, G__law_table, G__law_has, G__law_changed, G__law_hidden, G__law_fits, G_fits, G_weight_range]
theorem body0 {S : Tab} {p : Nat} {ws : List Int} {s0 s1 s3 s4 s5 s6 s7 s8 s10 s11 s12 s15 s16 : Slot} (hS : Shp S) (h12 : S.length + 1 ≤ 12) (hp : p < S.length + 1) (f : Fit (S.length + 1) (ent S) 64 (dg ws)) :
    ∃ t15 t16, ex Ph cs b_law_k09_0 [s0, s1, .val (.int 64), s3, s4, s5, s6, s7, s8, .val (tabD S), s10, s11, s12, .val (.int p), .val (.int (dg ws p)), s15, s16] = some (.nx [s0, s1, .val (.int 64), s3, s4, s5, s6, s7, s8, .val (tabD S), s10, s11, s12, .val (.int p), .val (.int (dg ws p)), t15, t16]) := by
  have m2 : mid 2 = true := by decide
  have m64 : mid 64 = true := by decide
  rcases weight_range_ok hS h12 hp with ⟨_, ⟨g1, _⟩ | ⟨l, r, g1, g2⟩⟩ | ⟨h, _⟩
  · refine ⟨.val .non, .val .non, ?_⟩
    unfold b_law_k09_0
    simp [g1, unpS, setAllS, nxS, isNonD]
  · have q1 := low_strict hp (ent_self S p) (fun v hv => ((g2 v).mp hv).1) f
    have q2 := high_strict (fun v hv => ((g2 v).mp hv).2) f
    refine ⟨.val (.int l), .val (.int r), ?_⟩
    unfold b_law_k09_0
    simp [g1, unpS, setAllS, nxS, isNonD, m2, m64, chainD, q1, q2]
  · exact absurd ⟨_, _, f⟩ h
theorem rest9 {S : Tab} {wd : List D} {s0 s1 s2 s3 s4 s5 s7 s8 s10 s11 s12 s13 s14 s15 s16 : Slot} (hS : Shp S) (h12 : S.length + 1 ≤ 12) (hwl : wd.length = S.length + 1) :
    ∃ t2 t3 t11 t12 t13 t14 t15 t16, ex Ph cs (tl (tl (tl b_law_k09_1))) [s0, s1, s2, s3, s4, s5, .val (.tup wd), s7, s8, .val (tabD S), s10, s11, s12, s13, s14, s15, s16] = some (.nx [s0, s1, t2, t3, s4, s5, .val (.tup wd), s7, s8, .val (tabD S), s10, t11, t12, t13, t14, t15, t16]) := by
  obtain ⟨b1, f1, f2⟩ := fits_nil hS h12
  obtain ⟨b2, f3, f4⟩ := fits_eq hS h12
  rcases solution_ok hS h12 with ⟨hs, ws, g1, g2, g3⟩ | ⟨hs, g1⟩
  · rw [f2.mpr hs] at f1
    rw [f4.mpr hs] at f3
    have hho := has_ok hS g2 (by decide) g3
    obtain ⟨st, h1, t13, t14, t15, t16, e⟩ := loop_goP (Φ := Ph) (cs := cs) (body := b_law_k09_0) (tg := [13, 14]) (ds := enmL 0 (ws.map D.int)) (st := [s0, s1, .val (.int 64), .val (.tup (ws.map D.int)), s4, s5, .val (.tup wd), s7, s8, .val (tabD S), s10, .val (.tup [.int 64, .tup (ws.map D.int)]), .val (.bl true), s13, s14, s15, s16])
      (fun k st => ∃ t13 t14 t15 t16, st = [s0, s1, .val (.int 64), .val (.tup (ws.map D.int)), s4, s5, .val (.tup wd), s7, s8, .val (tabD S), s10, .val (.tup [.int 64, .tup (ws.map D.int)]), .val (.bl true), t13, t14, t15, t16]) ⟨_, _, _, _, rfl⟩ fun k hk st ⟨t13, t14, t15, t16, e⟩ => by
        subst e
        have hk' : k < ws.length := by rw [PW.enmL_len, List.length_map] at hk; exact hk
        obtain ⟨r15, r16, h⟩ := body0 (S := S) (p := k) (ws := ws) (s0 := s0) (s1 := s1) (s3 := .val (.tup (ws.map D.int))) (s4 := s4) (s5 := s5) (s6 := .val (.tup wd)) (s7 := s7) (s8 := s8) (s10 := s10) (s11 := .val (.tup [.int 64, .tup (ws.map D.int)])) (s12 := .val (.bl true)) (s15 := t15) (s16 := t16) hS h12 (by omega) g3
        refine ⟨_, _, ?_, h, .val (.int (k : Int)), .val (.int (dg ws k)), r15, r16, rfl⟩
        rw [PW.enmL_get hk, List.getElem_map, Nat.zero_add, dg_of hk']
        rfl
    subst e
    have he : enmD (.tup (ws.map D.int)) = some (.lst (enmL 0 (ws.map D.int))) := rfl
    have ist : isiD (.tup (ws.map D.int)) "tuple" = some (.bl true) := rfl
    have hln : lenD [.tup (ws.map D.int)] = some (.int (wd.length : Int)) := by
      show some (D.int ((ws.map D.int).length : Int)) = _
      rw [List.length_map, g2, hwl]
    refine ⟨.val (.int 64), .val (.tup (ws.map D.int)), .val (.tup [.int 64, .tup (ws.map D.int)]), .val (.bl true), t13, t14, t15, t16, ?_⟩
    generalize enmL 0 (ws.map D.int) = EE at *
    generalize hW : (D.tup (ws.map D.int)) = W at *
    have scw : scalD W = false := by rw [← hW]; rfl
    generalize tabD S = B at *
    unfold b_law_k09_1
    simp only [tl]
    simp [g1, f1, f3, isNonD, unpS, setAllS, nxS, scw, ist, hln, hho, he, h1, lim]
  · rw [bool_of f2 hs] at f1
    rw [bool_of f4 hs] at f3
    refine ⟨s2, s3, .val .non, .val (.bl false), s13, s14, s15, s16, ?_⟩
    generalize tabD S = B at *
    unfold b_law_k09_1
    simp only [tl]
    simp [g1, f1, f3, isNonD, lim]
theorem body1 {T : Tab} {ds : List Int} {wd : List D} {k : Nat} {s0 s1 s2 s3 s5 s9 s10 s11 s12 s13 s14 s15 s16 : Slot} (hT : Shp T) (h1 : 1 ≤ T.length) (h12 : T.length + 1 ≤ 12) (hwl : wd.length = T.length + 1) (hl : ds.length = 60) (hk : k < 4) :
    ∃ t2 t3 t9 t10 t11 t12 t13 t14 t15 t16, ex Ph cs b_law_k09_1 [s0, s1, s2, s3, .val (.lst (ds.map D.int)), s5, .val (.tup wd), .val (tabD T), .val (.int k), s9, s10, s11, s12, s13, s14, s15, s16] = some (.nx [s0, s1, t2, t3, .val (.lst (ds.map D.int)), s5, .val (.tup wd), .val (tabD T), .val (.int k), t9, t10, t11, t12, t13, t14, t15, t16]) := by
  obtain ⟨q, e51, hq⟩ := fmod_nat (x := dg ds 51) (n := 3) (by omega)
  have e51' : (dg ds 51).fmod 3 = (q : Int) := e51
  have d51 : L2.atI (ds.map D.int) 51 = some (.int (dg ds 51)) := dig_at (i := 51) (by omega)
  obtain ⟨dc, hdc⟩ : ∃ d, d = ds.drop (14 + 8 * k) := ⟨_, rfl⟩
  have cut1 : slAD (.lst (ds.map D.int)) (.int (14 + 8 * (k : Int))) = some (.lst (dc.map D.int)) := by
    rw [hdc, ← cutD_from]
    rfl
  obtain ⟨dh, hdh⟩ : ∃ d, d = ds.drop 25 := ⟨_, rfl⟩
  have cut2 : slAD (.lst (ds.map D.int)) (.int 25) = some (.lst (dh.map D.int)) := by
    rw [hdh, ← cutD_from]
    rfl
  have m8 : mid 8 = true := by decide
  -- the first table
  have st1 : ∃ T1, Shp T1 ∧ T1.length = T.length ∧ ex Ph cs (PW.hd b_law_k09_1) [s0, s1, s2, s3, .val (.lst (ds.map D.int)), s5, .val (.tup wd), .val (tabD T), .val (.int k), s9, s10, s11, s12, s13, s14, s15, s16] = some (.nx [s0, s1, s2, s3, .val (.lst (ds.map D.int)), s5, .val (.tup wd), .val (tabD T), .val (.int k), .val (tabD T1), s10, s11, s12, s13, s14, s15, s16]) := by
    obtain ⟨C, hc1, hc2, _⟩ := changed_ok (ds := dc) hT (by omega) (by rw [hdc, List.length_drop]; omega)
    have scT : scalD (tabD T) = false := rfl
    have scC : scalD (tabD C) = false := rfl
    by_cases hk2 : (k : Int).fmod 2 = 0
    · refine ⟨T, hT, rfl, ?_⟩
      generalize tabD T = A at *
      unfold b_law_k09_1
      simp only [PW.hd]
      simp [hk2, cut1, m8, hc1, scT]
    · refine ⟨C, hc2.shp hT, hc2.len, ?_⟩
      generalize tabD T = A at *
      generalize tabD C = Q at *
      unfold b_law_k09_1
      simp only [PW.hd]
      simp [hk2, cut1, m8, hc1, scC]
  obtain ⟨T1, hT1, hl1, e1⟩ := st1
  have st2 : ∃ T2, Shp T2 ∧ T2.length = T.length ∧ ex Ph cs (PW.hd (tl (tl b_law_k09_1))) [s0, s1, s2, s3, .val (.lst (ds.map D.int)), s5, .val (.tup wd), .val (tabD T), .val (.int k), .val (tabD T1), .val (.int (2 + (q : Int))), s11, s12, s13, s14, s15, s16] = some (.nx [s0, s1, s2, s3, .val (.lst (ds.map D.int)), s5, .val (.tup wd), .val (tabD T), .val (.int k), .val (tabD T2), .val (.int (2 + (q : Int))), s11, s12, s13, s14, s15, s16]) := by
    obtain ⟨C, hc1, hc2⟩ := hidden_ok (ds := dh) (often := 2 + (q : Int)) hT1 (by rw [hdh, List.length_drop]; omega) (by omega)
    have scT : scalD (tabD T1) = false := rfl
    have scC : scalD (tabD C) = false := rfl
    by_cases hk2 : (k : Int) < 2
    · refine ⟨T1, hT1, hl1, ?_⟩
      generalize tabD T1 = A at *
      unfold b_law_k09_1
      simp only [PW.hd, tl]
      simp [hk2, cut2, hc1, scT]
    · refine ⟨C, hc2.shp, by rw [hc2.len]; exact hl1, ?_⟩
      generalize tabD T1 = A at *
      generalize tabD C = Q at *
      unfold b_law_k09_1
      simp only [PW.hd, tl]
      simp [hk2, cut2, hc1, scC]
  obtain ⟨T2, hT2, hl2, e2⟩ := st2
  have e10 : ex Ph cs (PW.hd (tl b_law_k09_1)) [s0, s1, s2, s3, .val (.lst (ds.map D.int)), s5, .val (.tup wd), .val (tabD T), .val (.int k), .val (tabD T1), s10, s11, s12, s13, s14, s15, s16] = some (.nx [s0, s1, s2, s3, .val (.lst (ds.map D.int)), s5, .val (.tup wd), .val (tabD T), .val (.int k), .val (tabD T1), .val (.int (2 + (q : Int))), s11, s12, s13, s14, s15, s16]) := by
    unfold b_law_k09_1
    simp only [PW.hd, tl]
    simp [d51, e51']
  obtain ⟨t2, t3, t11, t12, t13, t14, t15, t16, e3⟩ := rest9 (S := T2) (wd := wd) (s0 := s0) (s1 := s1) (s2 := s2) (s3 := s3) (s4 := .val (.lst (ds.map D.int))) (s5 := s5) (s7 := .val (tabD T)) (s8 := .val (.int k)) (s10 := .val (.int (2 + (q : Int)))) (s11 := s11) (s12 := s12) (s13 := s13) (s14 := s14) (s15 := s15) (s16 := s16) hT2 (by omega) (by omega)
  refine ⟨t2, t3, .val (tabD T2), .val (.int (2 + (q : Int))), t11, t12, t13, t14, t15, t16, ?_⟩
  rw [show b_law_k09_1 = .seq (PW.hd b_law_k09_1) (.seq (PW.hd (tl b_law_k09_1)) (.seq (PW.hd (tl (tl b_law_k09_1))) (tl (tl (tl b_law_k09_1))))) from rfl, ex_seq, e1, thenS_nx, ex_seq, e10, thenS_nx, ex_seq, e2, thenS_nx, e3]
theorem body2 {ns : List Int} {i : Nat} {s2 s3 s4 s5 s6 s7 s8 s9 s10 s11 s12 s13 s14 s15 s16 : Slot} (hi : i < 8) :
    ∃ t2 t3 t4 t5 t6 t7 t8 t9 t10 t11 t12 t13 t14 t15 t16, ex Ph cs b_law_k09_2 [.val (.scr ns), .val (.int i), s2, s3, s4, s5, s6, s7, s8, s9, s10, s11, s12, s13, s14, s15, s16] = some (.nx [.val (.scr ns), .val (.int i), t2, t3, t4, t5, t6, t7, t8, t9, t10, t11, t12, t13, t14, t15, t16]) := by
  obtain ⟨ds, hd, hl, hdb⟩ := digits_ok ns i 60 27720 (by omega) (by omega) (by decide) (by decide)
  obtain ⟨p, e50, hp⟩ := fmod_nat (x := dg ds 50) (n := 5) (by omega)
  have e50' : (dg ds 50).fmod 5 = (p : Int) := e50
  have d50 : L2.atI (ds.map D.int) 50 = some (.int (dg ds 50)) := dig_at (i := 50) (by omega)
  obtain ⟨u, ws, hw, hu1, hu6, hwl, hwb⟩ := weights_ok (ds := ds) (many := 2 + p) (by omega) (by omega) (by omega) (fun d h => (hdb d h).1)
  have hw' : G__law_weights [.lst (ds.map D.int), .int (2 + (p : Int))] = some (.tup [.int u, .tup (ws.map D.int)]) := by
    rw [← hw]
    congr 3
  have ht := table_eq (u := u) (ws := ws) (small6 hu1 hu6) (by omega) (by omega)
  have hT : Shp (tabOf u ws) := tabOf_shp (by omega)
  have hTl := tabOf_len u ws
  generalize tabOf u ws = T at *
  have hwd : (ws.map D.int).length = T.length + 1 := by rw [List.length_map]; omega
  obtain ⟨st', h1, t2, t3, t8, t9, t10, t11, t12, t13, t14, t15, t16, e⟩ := loop_rng (Φ := Ph) (cs := cs) (body := b_law_k09_1) (j := 8) (a := 0) (b := 4) (st := [.val (.scr ns), .val (.int i), s2, s3, .val (.lst (ds.map D.int)), .val (.int u), .val (.tup (ws.map D.int)), .val (tabD T), s8, s9, s10, s11, s12, s13, s14, s15, s16]) (by omega)
    (fun k st => ∃ t2 t3 t8 t9 t10 t11 t12 t13 t14 t15 t16, st = [.val (.scr ns), .val (.int i), t2, t3, .val (.lst (ds.map D.int)), .val (.int u), .val (.tup (ws.map D.int)), .val (tabD T), t8, t9, t10, t11, t12, t13, t14, t15, t16]) ⟨_, _, _, _, _, _, _, _, _, _, _, rfl⟩ (fun k st ⟨_, _, _, _, _, _, _, _, _, _, _, e⟩ => by rw [e]; exact (by decide : 8 < 17)) fun k _ hk st ⟨t2, t3, t8, t9, t10, t11, t12, t13, t14, t15, t16, e⟩ => by
      subst e
      obtain ⟨r2, r3, r9, r10, r11, r12, r13, r14, r15, r16, h⟩ := body1 (T := T) (ds := ds) (wd := ws.map D.int) (k := k) (s0 := .val (.scr ns)) (s1 := .val (.int i)) (s2 := t2) (s3 := t3) (s5 := .val (.int u)) (s9 := t9) (s10 := t10) (s11 := t11) (s12 := t12) (s13 := t13) (s14 := t14) (s15 := t15) (s16 := t16) hT (by omega) (by omega) hwd hl hk
      exact ⟨_, h, _, _, _, _, _, _, _, _, _, _, _, rfl⟩
  subst e
  refine ⟨t2, t3, .val (.lst (ds.map D.int)), .val (.int u), .val (.tup (ws.map D.int)), .val (tabD T), t8, t9, t10, t11, t12, t13, t14, t15, t16, ?_⟩
  have r4 : r62 4 = true := by decide
  have h1' : loop Ph cs [8] false b_law_k09_1 (rngD 0 4) [.val (.scr ns), .val (.int i), s2, s3, .val (.lst (ds.map D.int)), .val (.int u), .val (.tup (ws.map D.int)), .val (tabD T), s8, s9, s10, s11, s12, s13, s14, s15, s16] = _ := h1
  have hd' : G__law_digits [.scr ns, .int i, .int 60, .int 27720] = _ := hd
  unfold b_law_k09_2
  simp [hd', d50, e50', hw', unpS, setAllS, nxS, ht, r4, h1']
theorem sol_of {T : Tab} (hT : Shp T) (h12 : T.length + 1 ≤ 12) (h : isN (G_solution [tabD T]) = false) : ∃ ws : List Int, G_solution [tabD T] = some (.tup [.int 64, .tup (ws.map D.int)]) ∧ ws.length = T.length + 1 ∧ Fit (T.length + 1) (ent T) 64 (dg ws) := by
  rcases solution_ok hT h12 with ⟨_, h⟩ | ⟨_, g⟩
  · exact h
  · rw [g] at h
    cases h
theorem law_ok (ns : List Int) (_h : ns.length ≤ 63) : G_law_k09 [.scr ns] = some (.bl true) := by
  obtain ⟨st', h1, t1, t2, t3, t4, t5, t6, t7, t8, t9, t10, t11, t12, t13, t14, t15, t16, e⟩ := loop_rng (Φ := Ph) (cs := cs) (body := b_law_k09_2) (j := 1) (a := 0) (b := 8) (st := [.val (.scr ns), .und, .und, .und, .und, .und, .und, .und, .und, .und, .und, .und, .und, .und, .und, .und, .und]) (by omega)
    (fun k st => ∃ t1 t2 t3 t4 t5 t6 t7 t8 t9 t10 t11 t12 t13 t14 t15 t16, st = [.val (.scr ns), t1, t2, t3, t4, t5, t6, t7, t8, t9, t10, t11, t12, t13, t14, t15, t16]) ⟨_, _, _, _, _, _, _, _, _, _, _, _, _, _, _, _, rfl⟩ (fun k st ⟨_, _, _, _, _, _, _, _, _, _, _, _, _, _, _, _, e⟩ => by rw [e]; exact (by decide : 1 < 17)) fun k _ hk st ⟨t1, t2, t3, t4, t5, t6, t7, t8, t9, t10, t11, t12, t13, t14, t15, t16, e⟩ => by
      subst e
      obtain ⟨r2, r3, r4, r5, r6, r7, r8, r9, r10, r11, r12, r13, r14, r15, r16, h⟩ := body2 (ns := ns) (i := k) (s2 := t2) (s3 := t3) (s4 := t4) (s5 := t5) (s6 := t6) (s7 := t7) (s8 := t8) (s9 := t9) (s10 := t10) (s11 := t11) (s12 := t12) (s13 := t13) (s14 := t14) (s15 := t15) (s16 := t16) hk
      exact ⟨_, h, _, _, _, _, _, _, _, _, _, _, _, _, _, _, _, _, rfl⟩
  subst e
  have r8 : r62 8 = true := by decide
  have h1' : loop Ph cs [1] false b_law_k09_2 (rngD 0 8) [.val (.scr ns), .und, .und, .und, .und, .und, .und, .und, .und, .und, .und, .und, .und, .und, .und, .und, .und] = _ := h1
  have w1 : G_solution [.tup [.tup [.int 1, .int 1, .int 1], .tup [.int 1, .int 1], .tup [.int 4]]] = some .non := isN_eq (by decide +kernel)
  have hA : Shp (PW.t3 12 13 14) := t3_shp 12 13 14
  obtain ⟨ws, g1, g2, g3⟩ := sol_of hA (by show 3 ≤ 12; omega) (by decide +kernel)
  have hB : Shp [[none]] := ⟨by decide, fun i hi => by
    have hi : i < 1 := hi
    rcases (by omega : i = 0) with rfl
    rfl⟩
  obtain ⟨vs, k1, k2, k3⟩ := sol_of hB (by decide) (by decide +kernel)
  have hh := has_ok hA g2 (by decide) g3
  have g1' : G_solution [.tup [.tup [.int 12, .int 13], .tup [.int 14]]] = _ := g1
  have hh' : G__law_has [.tup [.tup [.int 12, .int 13], .tup [.int 14]], .int 64, .tup (ws.map D.int)] = _ := hh
  have k1' : G_solution [.tup [.tup [.non]]] = _ := k1
  have k2' : vs.length = 2 := k2
  have ln : lenD [.tup (vs.map D.int)] = some (.int 2) := by
    show some (D.int ((vs.map D.int).length : Int)) = _
    rw [List.length_map, k2']
    rfl
  have scw : scalD (.tup (ws.map D.int)) = false := rfl
  generalize D.tup (ws.map D.int) = W at *
  generalize D.tup (vs.map D.int) = V at *
  unfold G_law_k09 runF m_law_k09
  simp [startS, r8, h1', lim, w1, isNonD, g1', unpS, setAllS, nxS, scw, hh', k1', at1, ln]
end K09
namespace K09
open DL PW PySem PySem.Spec PyProof.Rows L2
def top (i : Nat) : Stmt := PySem.Challenge.pw_pairweights_k09_whole_weights_that_have.main.body.getD i (.Pass ⟨0, 0, 0, 0⟩)
abbrev cons : List Str := ["PARTS"]
abbrev s_entry_of : Stmt := top 1
theorem sc_entry_of : FnScope ["table", "one", "other", "low", "high"] ["table", "one", "other"] (defScope s_entry_of) := ⟨rfl, rfl, rfl, by decide +kernel, rfl, by decide +kernel, by decide +kernel⟩
theorem ck_entry_of : chkS m_entry_of (ccOf ["table", "one", "other", "low", "high"] (defScope s_entry_of) [] cons) (defBody s_entry_of) = true := by decide +kernel
abbrev s_bounds : Stmt := top 4
theorem sc_bounds : FnScope ["table", "many", "nodes", "found", "one", "middle", "other", "entry", "length"] ["table"] (defScope s_bounds) := ⟨rfl, rfl, rfl, by decide +kernel, rfl, by decide +kernel, by decide +kernel⟩
theorem ck_bounds : chkS m_bounds (ccOf ["table", "many", "nodes", "found", "one", "middle", "other", "entry", "length"] (defScope s_bounds) ["entry_of"] cons) (defBody s_bounds) = true := by decide +kernel
abbrev s_solution : Stmt := top 8
theorem sc_solution : FnScope ["table", "found", "many", "heights", "node", "at", "one"] ["table"] (defScope s_solution) := ⟨rfl, rfl, rfl, by decide +kernel, rfl, by decide +kernel, by decide +kernel⟩
theorem ck_solution : chkS m_solution (ccOf ["table", "found", "many", "heights", "node", "at", "one"] (defScope s_solution) ["bounds"] cons) (defBody s_solution) = true := by decide +kernel
abbrev s__law_cell : Stmt := top 10
theorem sc__law_cell : FnScope ["script", "index"] ["script", "index"] (defScope s__law_cell) := ⟨rfl, rfl, rfl, by decide +kernel, rfl, by decide +kernel, by decide +kernel⟩
theorem ck__law_cell : chkS m__law_cell (ccOf ["script", "index"] (defScope s__law_cell) [] cons) (defBody s__law_cell) = true := by decide +kernel
abbrev s__law_digits : Stmt := top 11
theorem sc__law_digits : FnScope ["script", "index", "count", "base", "primes", "cell", "rest", "digits", "k", "mixed"] ["script", "index", "count", "base"] (defScope s__law_digits) := ⟨rfl, rfl, rfl, by decide +kernel, rfl, by decide +kernel, by decide +kernel⟩
theorem ck__law_digits : chkS m__law_digits (ccOf ["script", "index", "count", "base", "primes", "cell", "rest", "digits", "k", "mixed"] (defScope s__law_digits) ["_law_cell"] cons) (defBody s__law_digits) = true := by decide +kernel
abbrev s__law_weights : Stmt := top 12
theorem sc__law_weights : FnScope ["digits", "many", "unit", "weights", "k", "digit"] ["digits", "many"] (defScope s__law_weights) := ⟨rfl, rfl, rfl, by decide +kernel, rfl, by decide +kernel, by decide +kernel⟩
theorem ck__law_weights : chkS m__law_weights (ccOf ["digits", "many", "unit", "weights", "k", "digit"] (defScope s__law_weights) [] cons) (defBody s__law_weights) = true := by decide +kernel
abbrev s__law_table : Stmt := top 13
theorem sc__law_table : FnScope ["unit", "weights", "rows", "one", "more"] ["unit", "weights"] (defScope s__law_table) := ⟨rfl, rfl, rfl, by decide +kernel, rfl, by decide +kernel, by decide +kernel⟩
theorem ck__law_table : chkS m__law_table (ccOf ["unit", "weights", "rows", "one", "more"] (defScope s__law_table) [] cons) (defBody s__law_table) = true := by decide +kernel
abbrev s__law_entry : Stmt := top 14
theorem sc__law_entry : FnScope ["table", "one", "other"] ["table", "one", "other"] (defScope s__law_entry) := ⟨rfl, rfl, rfl, by decide +kernel, rfl, by decide +kernel, by decide +kernel⟩
theorem ck__law_entry : chkS m__law_entry (ccOf ["table", "one", "other"] (defScope s__law_entry) [] cons) (defBody s__law_entry) = true := by decide +kernel
abbrev s__law_has : Stmt := top 19
theorem sc__law_has : FnScope ["table", "unit", "weights", "one", "other", "entry"] ["table", "unit", "weights"] (defScope s__law_has) := ⟨rfl, rfl, rfl, by decide +kernel, rfl, by decide +kernel, by decide +kernel⟩
theorem ck__law_has : chkS m__law_has (ccOf ["table", "unit", "weights", "one", "other", "entry"] (defScope s__law_has) ["_law_entry"] cons) (defBody s__law_has) = true := by decide +kernel
abbrev s__law_changed : Stmt := top 15
theorem sc__law_changed : FnScope ["table", "digits", "rows", "k", "one", "place", "row"] ["table", "digits"] (defScope s__law_changed) := ⟨rfl, rfl, rfl, by decide +kernel, rfl, by decide +kernel, by decide +kernel⟩
theorem ck__law_changed : chkS m__law_changed (ccOf ["table", "digits", "rows", "k", "one", "place", "row"] (defScope s__law_changed) [] cons) (defBody s__law_changed) = true := by decide +kernel
abbrev s__law_hidden : Stmt := top 16
theorem sc__law_hidden : FnScope ["table", "digits", "often", "rows", "k", "row", "line", "entry"] ["table", "digits", "often"] (defScope s__law_hidden) := ⟨rfl, rfl, rfl, by decide +kernel, rfl, by decide +kernel, by decide +kernel⟩
theorem ck__law_hidden : chkS m__law_hidden (ccOf ["table", "digits", "often", "rows", "k", "row", "line", "entry"] (defScope s__law_hidden) [] cons) (defBody s__law_hidden) = true := by decide +kernel
abbrev s__law_square : Stmt := top 17
theorem sc__law_square : FnScope ["table", "more", "many", "rows", "one", "line", "other"] ["table", "more"] (defScope s__law_square) := ⟨rfl, rfl, rfl, by decide +kernel, rfl, by decide +kernel, by decide +kernel⟩
theorem ck__law_square : chkS m__law_square (ccOf ["table", "more", "many", "rows", "one", "line", "other"] (defScope s__law_square) ["_law_entry"] cons) (defBody s__law_square) = true := by decide +kernel
abbrev s__law_fits : Stmt := top 18
theorem sc__law_fits : FnScope ["table", "more", "rows", "many", "far", "one", "middle", "other", "ways", "column", "way"] ["table", "more"] (defScope s__law_fits) := ⟨rfl, rfl, rfl, by decide +kernel, rfl, by decide +kernel, by decide +kernel⟩
theorem ck__law_fits : chkS m__law_fits (ccOf ["table", "more", "rows", "many", "far", "one", "middle", "other", "ways", "column", "way"] (defScope s__law_fits) ["_law_square"] cons) (defBody s__law_fits) = true := by decide +kernel
abbrev s_fits : Stmt := top 5
theorem sc_fits : FnScope ["table"] ["table"] (defScope s_fits) := ⟨rfl, rfl, rfl, by decide +kernel, rfl, by decide +kernel, by decide +kernel⟩
theorem ck_fits : chkS m_fits (ccOf ["table"] (defScope s_fits) ["bounds"] cons) (defBody s_fits) = true := by decide +kernel
abbrev s_weight_range : Stmt := top 6
theorem sc_weight_range : FnScope ["table", "parcel", "found", "twin", "low", "high"] ["table", "parcel"] (defScope s_weight_range) := ⟨rfl, rfl, rfl, by decide +kernel, rfl, by decide +kernel, by decide +kernel⟩
theorem ck_weight_range : chkS m_weight_range (ccOf ["table", "parcel", "found", "twin", "low", "high"] (defScope s_weight_range) ["bounds"] cons) (defBody s_weight_range) = true := by decide +kernel
abbrev s_law : Stmt := top 20
theorem sc_law : FnScope ["script", "index", "parts", "others", "digits", "unit", "weights", "whole", "k", "table", "often", "found", "good", "parcel", "weight", "low", "high"] ["script"] (defScope s_law) := ⟨rfl, rfl, rfl, by decide +kernel, rfl, by decide +kernel, by decide +kernel⟩
theorem ck_law : chkS m_law_k09 (ccOf ["script", "index", "parts", "others", "digits", "unit", "weights", "whole", "k", "table", "often", "found", "good", "parcel", "weight", "low", "high"] (defScope s_law) ["solution", "_law_digits", "_law_weights", "_law_table", "_law_has", "_law_changed", "_law_hidden", "_law_fits", "fits", "weight_range"] cons) (defBody s_law) = true := by decide +kernel
theorem all_mk {l : PySem.W.OpenLaw} {w : World} {K : PySem.W.Frag} {h : Heap} {mg : Str → Option Value} {fa f0 f1 f2 f3 f4 f5 f6 f7 f8 f9 f10 f11 f12 f13 f14 f15 : Addr} (hlaw : ∀ ns : List Int, ns.length ≤ 63 → G_law_k09 [.scr ns] = some (.bl true)) (X : K.In h) (G : h.Ns mainGlobals mg) (hfa : mg "law" = some (.ref fa))
    {od0 an0 od1 an1 od2 an2 od3 an3 od4 an4 od5 an5 od6 an6 od7 an7 od8 an8 od9 an9 od10 an10 od11 an11 od12 an12 od13 an13 od14 an14 od15 an15 : Option Addr} {sl0 sl1 sl2 sl3 sl4 sl5 sl6 sl7 sl8 sl9 sl10 sl11 sl12 sl13 sl14 sl15 : Array (Option Value)} {oc0 kV0 dc0 pm0 cd0 ct0 oc1 kV1 dc1 pm1 cd1 ct1 oc2 kV2 dc2 pm2 cd2 ct2 oc3 kV3 dc3 pm3 cd3 ct3 oc4 kV4 dc4 pm4 cd4 ct4 oc5 kV5 dc5 pm5 cd5 ct5 oc6 kV6 dc6 pm6 cd6 ct6 oc7 kV7 dc7 pm7 cd7 ct7 oc8 kV8 dc8 pm8 cd8 ct8 oc9 kV9 dc9 pm9 cd9 ct9 oc10 kV10 dc10 pm10 cd10 ct10 oc11 kV11 dc11 pm11 cd11 ct11 oc12 kV12 dc12 pm12 cd12 ct12 oc13 kV13 dc13 pm13 cd13 ct13 oc14 kV14 dc14 pm14 cd14 ct14 oc15 kV15 dc15 pm15 cd15 ct15 : Value}
    (a0 : PySem.W.nsIn K mainGlobals "entry_of" = some (some (.ref f0))) (l0 : K.lookup f0 = some ⟨oc0, od0, .func (PySem.W.fnOf "entry_of" "entry_of" (defArgs s_entry_of) (defBody s_entry_of) (defScope s_entry_of) .none kV0 dc0 pm0 an0 cd0 ct0), sl0⟩) (c0 : PySem.W.codeIn K cd0 "entry_of" = true) (k0 : PySem.W.keepIn K (.ref f0) = true)
    (a1 : PySem.W.nsIn K mainGlobals "bounds" = some (some (.ref f1))) (l1 : K.lookup f1 = some ⟨oc1, od1, .func (PySem.W.fnOf "bounds" "bounds" (defArgs s_bounds) (defBody s_bounds) (defScope s_bounds) .none kV1 dc1 pm1 an1 cd1 ct1), sl1⟩) (c1 : PySem.W.codeIn K cd1 "bounds" = true) (k1 : PySem.W.keepIn K (.ref f1) = true)
    (a2 : PySem.W.nsIn K mainGlobals "solution" = some (some (.ref f2))) (l2 : K.lookup f2 = some ⟨oc2, od2, .func (PySem.W.fnOf "solution" "solution" (defArgs s_solution) (defBody s_solution) (defScope s_solution) .none kV2 dc2 pm2 an2 cd2 ct2), sl2⟩) (c2 : PySem.W.codeIn K cd2 "solution" = true) (k2 : PySem.W.keepIn K (.ref f2) = true)
    (a3 : PySem.W.nsIn K mainGlobals "_law_cell" = some (some (.ref f3))) (l3 : K.lookup f3 = some ⟨oc3, od3, .func (PySem.W.fnOf "_law_cell" "_law_cell" (defArgs s__law_cell) (defBody s__law_cell) (defScope s__law_cell) .none kV3 dc3 pm3 an3 cd3 ct3), sl3⟩) (c3 : PySem.W.codeIn K cd3 "_law_cell" = true) (k3 : PySem.W.keepIn K (.ref f3) = true)
    (a4 : PySem.W.nsIn K mainGlobals "_law_digits" = some (some (.ref f4))) (l4 : K.lookup f4 = some ⟨oc4, od4, .func (PySem.W.fnOf "_law_digits" "_law_digits" (defArgs s__law_digits) (defBody s__law_digits) (defScope s__law_digits) .none kV4 dc4 pm4 an4 cd4 ct4), sl4⟩) (c4 : PySem.W.codeIn K cd4 "_law_digits" = true) (k4 : PySem.W.keepIn K (.ref f4) = true)
    (a5 : PySem.W.nsIn K mainGlobals "_law_weights" = some (some (.ref f5))) (l5 : K.lookup f5 = some ⟨oc5, od5, .func (PySem.W.fnOf "_law_weights" "_law_weights" (defArgs s__law_weights) (defBody s__law_weights) (defScope s__law_weights) .none kV5 dc5 pm5 an5 cd5 ct5), sl5⟩) (c5 : PySem.W.codeIn K cd5 "_law_weights" = true) (k5 : PySem.W.keepIn K (.ref f5) = true)
    (a6 : PySem.W.nsIn K mainGlobals "_law_table" = some (some (.ref f6))) (l6 : K.lookup f6 = some ⟨oc6, od6, .func (PySem.W.fnOf "_law_table" "_law_table" (defArgs s__law_table) (defBody s__law_table) (defScope s__law_table) .none kV6 dc6 pm6 an6 cd6 ct6), sl6⟩) (c6 : PySem.W.codeIn K cd6 "_law_table" = true) (k6 : PySem.W.keepIn K (.ref f6) = true)
    (a7 : PySem.W.nsIn K mainGlobals "_law_entry" = some (some (.ref f7))) (l7 : K.lookup f7 = some ⟨oc7, od7, .func (PySem.W.fnOf "_law_entry" "_law_entry" (defArgs s__law_entry) (defBody s__law_entry) (defScope s__law_entry) .none kV7 dc7 pm7 an7 cd7 ct7), sl7⟩) (c7 : PySem.W.codeIn K cd7 "_law_entry" = true) (k7 : PySem.W.keepIn K (.ref f7) = true)
    (a8 : PySem.W.nsIn K mainGlobals "_law_has" = some (some (.ref f8))) (l8 : K.lookup f8 = some ⟨oc8, od8, .func (PySem.W.fnOf "_law_has" "_law_has" (defArgs s__law_has) (defBody s__law_has) (defScope s__law_has) .none kV8 dc8 pm8 an8 cd8 ct8), sl8⟩) (c8 : PySem.W.codeIn K cd8 "_law_has" = true) (k8 : PySem.W.keepIn K (.ref f8) = true)
    (a9 : PySem.W.nsIn K mainGlobals "_law_changed" = some (some (.ref f9))) (l9 : K.lookup f9 = some ⟨oc9, od9, .func (PySem.W.fnOf "_law_changed" "_law_changed" (defArgs s__law_changed) (defBody s__law_changed) (defScope s__law_changed) .none kV9 dc9 pm9 an9 cd9 ct9), sl9⟩) (c9 : PySem.W.codeIn K cd9 "_law_changed" = true) (k9 : PySem.W.keepIn K (.ref f9) = true)
    (a10 : PySem.W.nsIn K mainGlobals "_law_hidden" = some (some (.ref f10))) (l10 : K.lookup f10 = some ⟨oc10, od10, .func (PySem.W.fnOf "_law_hidden" "_law_hidden" (defArgs s__law_hidden) (defBody s__law_hidden) (defScope s__law_hidden) .none kV10 dc10 pm10 an10 cd10 ct10), sl10⟩) (c10 : PySem.W.codeIn K cd10 "_law_hidden" = true) (k10 : PySem.W.keepIn K (.ref f10) = true)
    (a11 : PySem.W.nsIn K mainGlobals "_law_square" = some (some (.ref f11))) (l11 : K.lookup f11 = some ⟨oc11, od11, .func (PySem.W.fnOf "_law_square" "_law_square" (defArgs s__law_square) (defBody s__law_square) (defScope s__law_square) .none kV11 dc11 pm11 an11 cd11 ct11), sl11⟩) (c11 : PySem.W.codeIn K cd11 "_law_square" = true) (k11 : PySem.W.keepIn K (.ref f11) = true)
    (a12 : PySem.W.nsIn K mainGlobals "_law_fits" = some (some (.ref f12))) (l12 : K.lookup f12 = some ⟨oc12, od12, .func (PySem.W.fnOf "_law_fits" "_law_fits" (defArgs s__law_fits) (defBody s__law_fits) (defScope s__law_fits) .none kV12 dc12 pm12 an12 cd12 ct12), sl12⟩) (c12 : PySem.W.codeIn K cd12 "_law_fits" = true) (k12 : PySem.W.keepIn K (.ref f12) = true)
    (a13 : PySem.W.nsIn K mainGlobals "fits" = some (some (.ref f13))) (l13 : K.lookup f13 = some ⟨oc13, od13, .func (PySem.W.fnOf "fits" "fits" (defArgs s_fits) (defBody s_fits) (defScope s_fits) .none kV13 dc13 pm13 an13 cd13 ct13), sl13⟩) (c13 : PySem.W.codeIn K cd13 "fits" = true) (k13 : PySem.W.keepIn K (.ref f13) = true)
    (a14 : PySem.W.nsIn K mainGlobals "weight_range" = some (some (.ref f14))) (l14 : K.lookup f14 = some ⟨oc14, od14, .func (PySem.W.fnOf "weight_range" "weight_range" (defArgs s_weight_range) (defBody s_weight_range) (defScope s_weight_range) .none kV14 dc14 pm14 an14 cd14 ct14), sl14⟩) (c14 : PySem.W.codeIn K cd14 "weight_range" = true) (k14 : PySem.W.keepIn K (.ref f14) = true)
    (a15 : PySem.W.nsIn K mainGlobals "law" = some (some (.ref f15))) (l15 : K.lookup f15 = some ⟨oc15, od15, .func (PySem.W.fnOf "law" "law" (defArgs s_law) (defBody s_law) (defScope s_law) .none kV15 dc15 pm15 an15 cd15 ct15), sl15⟩) (c15 : PySem.W.codeIn K cd15 "law" = true) (k15 : PySem.W.keepIn K (.ref f15) = true)
    (z0 : PySem.W.nsIn K mainGlobals "len" = some none) (z1 : PySem.W.nsIn K mainGlobals "max" = some none) (z2 : PySem.W.nsIn K mainGlobals "min" = some none) (z3 : PySem.W.nsIn K mainGlobals "all" = some none) (z4 : PySem.W.nsIn K mainGlobals "list" = some none) (z5 : PySem.W.nsIn K mainGlobals "tuple" = some none) (z6 : PySem.W.nsIn K mainGlobals "int" = some none) (z7 : PySem.W.nsIn K mainGlobals "bool" = some none) (z8 : PySem.W.nsIn K mainGlobals "str" = some none) (z9 : PySem.W.nsIn K mainGlobals "isinstance" = some none) (z10 : PySem.W.nsIn K mainGlobals "range" = some none) (z11 : PySem.W.nsIn K mainGlobals "enumerate" = some none) (z12 : PySem.W.nsIn K mainGlobals "zip" = some none) (y0 : ∃ t, PySem.W.nsIn K mainGlobals "PARTS" = some (some (.int 32 t))) :
    ∃ fd : FuncData, (∀ (s : Shared) (v : Value), BindsTo s fd ⟨[v], []⟩ [("script", v)]) ∧ ∀ base : Heap, K.In base → base.Ns mainGlobals mg → FnOk l.prog w K mg base CX0 4 fa fd ["script"] (DL.spLaw K) := by
  have e := hfa.symm.trans (PySem.W.mg_of X G a15)
  cases e
  refine ⟨PySem.W.fnOf "law" "law" (defArgs s_law) (defBody s_law) (defScope s_law) .none kV15 dc15 pm15 an15 cd15 ct15, fun s v => .of_eq rfl, fun base _ _ => ?_⟩
  have T : Top K mg cons [32] := by
    refine ⟨fun x hx => ?_, fun j x hj => ?_⟩
    · simp only [bltN, List.mem_cons, List.not_mem_nil, or_false] at hx
      rcases hx with rfl | rfl | rfl | rfl | rfl | rfl | rfl | rfl | rfl | rfl | rfl | rfl | rfl
      · exact PySem.W.mg_none_of X G z0
      · exact PySem.W.mg_none_of X G z1
      · exact PySem.W.mg_none_of X G z2
      · exact PySem.W.mg_none_of X G z3
      · exact PySem.W.mg_none_of X G z4
      · exact PySem.W.mg_none_of X G z5
      · exact PySem.W.mg_none_of X G z6
      · exact PySem.W.mg_none_of X G z7
      · exact PySem.W.mg_none_of X G z8
      · exact PySem.W.mg_none_of X G z9
      · exact PySem.W.mg_none_of X G z10
      · exact PySem.W.mg_none_of X G z11
      · exact PySem.W.mg_none_of X G z12
    · match j, hj with
      | 0, hj =>
        cases hj
        obtain ⟨t, ht⟩ := y0
        exact ⟨t, PySem.W.mg_of X G ht⟩
      | j + 1, hj => simp at hj
  have F0 := fun_mk (st := s_entry_of) l0 c0 k0
  have B0 := F0.binds (ps := ["table", "one", "other"]) fun _ _ _ _ _ _ us hl => match us, hl with | [_, _, _], _ => rfl
  have D0 : FD l.prog w K mg base 1 "entry_of" G_entry_of := fd_mk (k := 0) F0 (PySem.W.mg_of X G a0) B0 sc_entry_of T .nil ck_entry_of
  have F1 := fun_mk (st := s_bounds) l1 c1 k1
  have B1 := F1.binds (ps := ["table"]) fun _ _ _ _ _ _ us hl => match us, hl with | [_], _ => rfl
  have D1 : FD l.prog w K mg base 2 "bounds" G_bounds := fd_mk (k := 1) F1 (PySem.W.mg_of X G a1) B1 sc_bounds T (.cons D0 (by decide) .nil) ck_bounds
  have F2 := fun_mk (st := s_solution) l2 c2 k2
  have B2 := F2.binds (ps := ["table"]) fun _ _ _ _ _ _ us hl => match us, hl with | [_], _ => rfl
  have D2 : FD l.prog w K mg base 3 "solution" G_solution := fd_mk (k := 2) F2 (PySem.W.mg_of X G a2) B2 sc_solution T (.cons D1 (by decide) .nil) ck_solution
  have F3 := fun_mk (st := s__law_cell) l3 c3 k3
  have B3 := F3.binds (ps := ["script", "index"]) fun _ _ _ _ _ _ us hl => match us, hl with | [_, _], _ => rfl
  have D3 : FD l.prog w K mg base 1 "_law_cell" G__law_cell := fd_mk (k := 0) F3 (PySem.W.mg_of X G a3) B3 sc__law_cell T .nil ck__law_cell
  have F4 := fun_mk (st := s__law_digits) l4 c4 k4
  have B4 := F4.binds (ps := ["script", "index", "count", "base"]) fun _ _ _ _ _ _ us hl => match us, hl with | [_, _, _, _], _ => rfl
  have D4 : FD l.prog w K mg base 2 "_law_digits" G__law_digits := fd_mk (k := 1) F4 (PySem.W.mg_of X G a4) B4 sc__law_digits T (.cons D3 (by decide) .nil) ck__law_digits
  have F5 := fun_mk (st := s__law_weights) l5 c5 k5
  have B5 := F5.binds (ps := ["digits", "many"]) fun _ _ _ _ _ _ us hl => match us, hl with | [_, _], _ => rfl
  have D5 : FD l.prog w K mg base 1 "_law_weights" G__law_weights := fd_mk (k := 0) F5 (PySem.W.mg_of X G a5) B5 sc__law_weights T .nil ck__law_weights
  have F6 := fun_mk (st := s__law_table) l6 c6 k6
  have B6 := F6.binds (ps := ["unit", "weights"]) fun _ _ _ _ _ _ us hl => match us, hl with | [_, _], _ => rfl
  have D6 : FD l.prog w K mg base 1 "_law_table" G__law_table := fd_mk (k := 0) F6 (PySem.W.mg_of X G a6) B6 sc__law_table T .nil ck__law_table
  have F7 := fun_mk (st := s__law_entry) l7 c7 k7
  have B7 := F7.binds (ps := ["table", "one", "other"]) fun _ _ _ _ _ _ us hl => match us, hl with | [_, _, _], _ => rfl
  have D7 : FD l.prog w K mg base 1 "_law_entry" G__law_entry := fd_mk (k := 0) F7 (PySem.W.mg_of X G a7) B7 sc__law_entry T .nil ck__law_entry
  have F8 := fun_mk (st := s__law_has) l8 c8 k8
  have B8 := F8.binds (ps := ["table", "unit", "weights"]) fun _ _ _ _ _ _ us hl => match us, hl with | [_, _, _], _ => rfl
  have D8 : FD l.prog w K mg base 2 "_law_has" G__law_has := fd_mk (k := 1) F8 (PySem.W.mg_of X G a8) B8 sc__law_has T (.cons D7 (by decide) .nil) ck__law_has
  have F9 := fun_mk (st := s__law_changed) l9 c9 k9
  have B9 := F9.binds (ps := ["table", "digits"]) fun _ _ _ _ _ _ us hl => match us, hl with | [_, _], _ => rfl
  have D9 : FD l.prog w K mg base 1 "_law_changed" G__law_changed := fd_mk (k := 0) F9 (PySem.W.mg_of X G a9) B9 sc__law_changed T .nil ck__law_changed
  have F10 := fun_mk (st := s__law_hidden) l10 c10 k10
  have B10 := F10.binds (ps := ["table", "digits", "often"]) fun _ _ _ _ _ _ us hl => match us, hl with | [_, _, _], _ => rfl
  have D10 : FD l.prog w K mg base 1 "_law_hidden" G__law_hidden := fd_mk (k := 0) F10 (PySem.W.mg_of X G a10) B10 sc__law_hidden T .nil ck__law_hidden
  have F11 := fun_mk (st := s__law_square) l11 c11 k11
  have B11 := F11.binds (ps := ["table", "more"]) fun _ _ _ _ _ _ us hl => match us, hl with | [_, _], _ => rfl
  have D11 : FD l.prog w K mg base 2 "_law_square" G__law_square := fd_mk (k := 1) F11 (PySem.W.mg_of X G a11) B11 sc__law_square T (.cons D7 (by decide) .nil) ck__law_square
  have F12 := fun_mk (st := s__law_fits) l12 c12 k12
  have B12 := F12.binds (ps := ["table", "more"]) fun _ _ _ _ _ _ us hl => match us, hl with | [_, _], _ => rfl
  have D12 : FD l.prog w K mg base 3 "_law_fits" G__law_fits := fd_mk (k := 2) F12 (PySem.W.mg_of X G a12) B12 sc__law_fits T (.cons D11 (by decide) .nil) ck__law_fits
  have F13 := fun_mk (st := s_fits) l13 c13 k13
  have B13 := F13.binds (ps := ["table"]) fun _ _ _ _ _ _ us hl => match us, hl with | [_], _ => rfl
  have D13 : FD l.prog w K mg base 3 "fits" G_fits := fd_mk (k := 2) F13 (PySem.W.mg_of X G a13) B13 sc_fits T (.cons D1 (by decide) .nil) ck_fits
  have F14 := fun_mk (st := s_weight_range) l14 c14 k14
  have B14 := F14.binds (ps := ["table", "parcel"]) fun _ _ _ _ _ _ us hl => match us, hl with | [_, _], _ => rfl
  have D14 : FD l.prog w K mg base 3 "weight_range" G_weight_range := fd_mk (k := 2) F14 (PySem.W.mg_of X G a14) B14 sc_weight_range T (.cons D1 (by decide) .nil) ck_weight_range
  have F15 := fun_mk (st := s_law) l15 c15 k15
  exact law_imp hlaw (fn_mk (k := 3) F15 sc_law T (.cons D2 (by decide) (.cons D4 (by decide) (.cons D5 (by decide) (.cons D6 (by decide) (.cons D8 (by decide) (.cons D9 (by decide) (.cons D10 (by decide) (.cons D12 (by decide) (.cons D13 (by decide) (.cons D14 (by decide) .nil)))))))))) ck_law)
end K09
open PySem PySem.W PyProof.Rows in
set_option maxRecDepth 100000 in
set_option maxHeartbeats 0 in
theorem PySem.Challenge.cw_pairweights_k09_whole_weights_that_have_holds : PySem.Challenge.rw_pairweights_k09_whole_weights_that_have.Holds := by
  w_on; o_law; k_head; (case hw => w_witness2)
  k_fill
  refine DL.walk (k := 4) (l := PySem.Challenge.rw_pairweights_k09_whole_weights_that_have) rfl rfl ⟨rfl, by decide, by decide⟩ (fun w h Y => PySem.W.kIn_of Y) ?F
  case F =>
    intro w mg fa h KX G hmg
    refine' K09.all_mk K09.law_ok KX G hmg ?a0 ?l0 ?c0 ?k0 ?a1 ?l1 ?c1 ?k1 ?a2 ?l2 ?c2 ?k2 ?a3 ?l3 ?c3 ?k3 ?a4 ?l4 ?c4 ?k4 ?a5 ?l5 ?c5 ?k5 ?a6 ?l6 ?c6 ?k6 ?a7 ?l7 ?c7 ?k7 ?a8 ?l8 ?c8 ?k8 ?a9 ?l9 ?c9 ?k9 ?a10 ?l10 ?c10 ?k10 ?a11 ?l11 ?c11 ?k11 ?a12 ?l12 ?c12 ?k12 ?a13 ?l13 ?c13 ?k13 ?a14 ?l14 ?c14 ?k14 ?a15 ?l15 ?c15 ?k15 ?z0 ?z1 ?z2 ?z3 ?z4 ?z5 ?z6 ?z7 ?z8 ?z9 ?z10 ?z11 ?z12 ?y0
    (case a0 => k_is)
    (case l0 => k_is)
    (case c0 => k_is)
    (case k0 => k_is)
    (case a1 => k_is)
    (case l1 => k_is)
    (case c1 => k_is)
    (case k1 => k_is)
    (case a2 => k_is)
    (case l2 => k_is)
    (case c2 => k_is)
    (case k2 => k_is)
    (case a3 => k_is)
    (case l3 => k_is)
    (case c3 => k_is)
    (case k3 => k_is)
    (case a4 => k_is)
    (case l4 => k_is)
    (case c4 => k_is)
    (case k4 => k_is)
    (case a5 => k_is)
    (case l5 => k_is)
    (case c5 => k_is)
    (case k5 => k_is)
    (case a6 => k_is)
    (case l6 => k_is)
    (case c6 => k_is)
    (case k6 => k_is)
    (case a7 => k_is)
    (case l7 => k_is)
    (case c7 => k_is)
    (case k7 => k_is)
    (case a8 => k_is)
    (case l8 => k_is)
    (case c8 => k_is)
    (case k8 => k_is)
    (case a9 => k_is)
    (case l9 => k_is)
    (case c9 => k_is)
    (case k9 => k_is)
    (case a10 => k_is)
    (case l10 => k_is)
    (case c10 => k_is)
    (case k10 => k_is)
    (case a11 => k_is)
    (case l11 => k_is)
    (case c11 => k_is)
    (case k11 => k_is)
    (case a12 => k_is)
    (case l12 => k_is)
    (case c12 => k_is)
    (case k12 => k_is)
    (case a13 => k_is)
    (case l13 => k_is)
    (case c13 => k_is)
    (case k13 => k_is)
    (case a14 => k_is)
    (case l14 => k_is)
    (case c14 => k_is)
    (case k14 => k_is)
    (case a15 => k_is)
    (case l15 => k_is)
    (case c15 => k_is)
    (case k15 => k_is)
    (case z0 => k_is)
    (case z1 => k_is)
    (case z2 => k_is)
    (case z3 => k_is)
    (case z4 => k_is)
    (case z5 => k_is)
    (case z6 => k_is)
    (case z7 => k_is)
    (case z8 => k_is)
    (case z9 => k_is)
    (case z10 => k_is)
    (case z11 => k_is)
    (case z12 => k_is)
    (case y0 => exact ⟨_, by k_is⟩)
#print axioms PySem.Challenge.cw_pairweights_k09_whole_weights_that_have_holds
