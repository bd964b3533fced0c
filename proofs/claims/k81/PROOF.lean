import PyProof.Rows.All
import Wide.All
import OpenK.AllK
import Wide.FinOn
import HandS.ForMost
import HandS.ForExc
import HandS.Lambda
import HandS.Defaults
import HandS.TupAny
import HandS.TupMul
import HandS.Wide
import HandS.IsInst
import HandS.Flow
import HandS.RaiseMore
import HandS.Style
import HandS.ExcSuper
import HandS.ExcField
import HandS.ExcIs
import KE.KExcSuper
import HandS.HeadHook4
import KE.KDflt
import KE.KExcIs
import HandS.Text
import HandS.MapJoin
import HandS.Dict
import KE.KStateDown
import HandS.HeadHook2
import HandS.HeadHook3
import HandS.HeadWalk
import HandS.Comp
import HandS.NestedK
import Lean
import HandS.Head0
import HandS.Head1
import HandS.Head2
import HandS.HeadEnd
import HandS.HeadHook1
import PySem.Challenge.RW_samecourse_k81_texts_of_courses
section
set_option Elab.async false
set_option linter.all false
set_option maxRecDepth 100000
namespace Mi
open PySem PySem.Spec PyProof.Rows L2

/-! ## Plain data -/
inductive D where
  | non | bl (b : Bool) | int (i : Int) | str (x : List Nat) | tup (xs : List D) | ref (n : Nat)
  deriving Inhabited

inductive Ob where
  | lst (xs : List D)
  | frz (xs : List D)
  | dic (kvs : List (D × D))
  | ins (c : Nat) (fs : List (Nat × D))
  | exc (c : Nat) (fs : List (Nat × D))

/-! ## A memory: a tree by the bits of a number -/
inductive Tr where
  | lf
  | nd (l : Tr) (v : Option Ob) (r : Tr)
def Tr.left : Tr → Tr
  | .lf => .lf
  | .nd l _ _ => l
def Tr.right : Tr → Tr
  | .lf => .lf
  | .nd _ _ r => r
def Tr.val : Tr → Option Ob
  | .lf => none
  | .nd _ v _ => v
def Tr.get : Tr → Nat → Option Ob
  | .lf, _ => none
  | .nd l v r, n => match n with
    | 0 => v
    | k + 1 => match k % 2 with
      | 0 => l.get (k / 2)
      | _ => r.get (k / 2)
def Tr.set : Nat → Tr → Nat → Ob → Tr
  | 0, t, n, o => match n with
    | 0 => .nd t.left (some o) t.right
    | _ + 1 => t
  | f + 1, t, n, o => match n with
    | 0 => .nd t.left (some o) t.right
    | k + 1 => match k % 2 with
      | 0 => .nd (Tr.set f t.left (k / 2) o) t.val t.right
      | _ => .nd t.left t.val (Tr.set f t.right (k / 2) o)
theorem Tr.get_nd (l : Tr) (v : Option Ob) (r : Tr) (n : Nat) : (Tr.nd l v r).get n = match n with
    | 0 => v
    | k + 1 => match k % 2 with
      | 0 => l.get (k / 2)
      | _ => r.get (k / 2) := rfl
theorem Tr.get_parts (t : Tr) (n : Nat) : t.get n = (Tr.nd t.left t.val t.right).get n := by
  cases t with
  | nd l v r => rfl
  | lf =>
    rw [Tr.get_nd]
    cases n with
    | zero => rfl
    | succ k =>
      show none = match k % 2 with | 0 => Tr.lf.get (k / 2) | _ => Tr.lf.get (k / 2)
      split <;> rfl
theorem Tr.get_set : ∀ (f : Nat) (t : Tr) (n : Nat) (o : Ob) (k : Nat), n ≤ f → (Tr.set f t n o).get k = if k = n then some o else t.get k
  | 0, t, n, o, k, h => by
    have e : n = 0 := Nat.le_zero.mp h
    subst e
    show (Tr.nd t.left (some o) t.right).get k = _
    rw [Tr.get_parts t k, Tr.get_nd, Tr.get_nd]
    cases k with
    | zero => rfl
    | succ j => rw [if_neg (Nat.succ_ne_zero j)]
  | f + 1, t, 0, o, k, h => by
    show (Tr.nd t.left (some o) t.right).get k = _
    rw [Tr.get_parts t k, Tr.get_nd, Tr.get_nd]
    cases k with
    | zero => rfl
    | succ j => rw [if_neg (Nat.succ_ne_zero j)]
  | f + 1, t, i + 1, o, k, h => by
    have hi : i / 2 ≤ f := by omega
    rw [Tr.get_parts t k, Tr.get_nd]
    show (match i % 2 with
      | 0 => Tr.nd (Tr.set f t.left (i / 2) o) t.val t.right
      | _ => Tr.nd t.left t.val (Tr.set f t.right (i / 2) o)).get k = _
    cases k with
    | zero =>
      rw [if_neg (Nat.succ_ne_zero i).symm]
      split <;> rfl
    | succ j =>
      split
      · rename_i e
        rw [Tr.get_nd]
        show (match j % 2 with
          | 0 => (Tr.set f t.left (i / 2) o).get (j / 2)
          | _ => t.right.get (j / 2)) = _
        split
        · rename_i e2
          rw [Tr.get_set f t.left (i / 2) o (j / 2) hi]
          by_cases q : j = i
          · rw [if_pos (by rw [q]), if_pos (by rw [q])]
          · rw [if_neg (by omega), if_neg (by omega)]
            dsimp only
            rw [e2]
            rfl
        · rename_i e2
          rw [if_neg (by intro z; apply e2; omega)]
          dsimp only
          split
          · rename_i e3
            exact absurd e3 e2
          · rfl
      · rename_i e
        rw [Tr.get_nd]
        show (match j % 2 with
          | 0 => t.left.get (j / 2)
          | _ => (Tr.set f t.right (i / 2) o).get (j / 2)) = _
        split
        · rename_i e2
          rw [if_neg (by intro z; apply e; omega)]
          dsimp only
          rw [e2]
          rfl
        · rename_i e2
          rw [Tr.get_set f t.right (i / 2) o (j / 2) hi]
          have h1 : i % 2 = 1 := by
            have := Nat.mod_lt i (show 2 > 0 by decide)
            have e' : i % 2 ≠ 0 := e
            omega
          have h2 : j % 2 = 1 := by
            have := Nat.mod_lt j (show 2 > 0 by decide)
            have e' : j % 2 ≠ 0 := e2
            omega
          by_cases q : j = i
          · rw [if_pos (by rw [q]), if_pos (by rw [q])]
          · rw [if_neg (by omega), if_neg (by omega)]
            dsimp only
            rw [h2]
            rfl
structure Mem where
  next : Nat
  tr : Tr
def Mem.get (m : Mem) (n : Nat) : Option Ob := m.tr.get n
def Mem.set (m : Mem) (n : Nat) (o : Ob) : Mem := ⟨m.next, Tr.set n m.tr n o⟩
def Mem.new (m : Mem) (o : Ob) : Mem := ⟨m.next + 1, Tr.set m.next m.tr m.next o⟩
theorem Mem.get_set (m : Mem) (n : Nat) (o : Ob) (k : Nat) : (m.set n o).get k = if k = n then some o else m.get k := Tr.get_set n m.tr n o k (Nat.le_refl _)
theorem Mem.get_new (m : Mem) (o : Ob) (k : Nat) : (m.new o).get k = if k = m.next then some o else m.get k := Tr.get_set m.next m.tr m.next o k (Nat.le_refl _)
theorem Mem.next_set (m : Mem) (n : Nat) (o : Ob) : (m.set n o).next = m.next := rfl
theorem Mem.next_new (m : Mem) (o : Ob) : (m.new o).next = m.next + 1 := rfl
end Mi
end

section
set_option Elab.async false
set_option linter.all false
set_option maxRecDepth 100000
set_option autoImplicit false
namespace Mi
open PySem PySem.Spec PyProof.Rows L2

/-! ## What the plain data stand for -/
/-- the written part, where the classes stand, how the attributes are called, the tables of code objects -/
structure Sg where
  K : PySem.W.Frag
  ca : Nat → Addr
  fn : Nat → Str
  nf : Nat
  T : List (Addr × Str)

abbrev Rho := Nat → Option Addr
mutual
def RD (K : PySem.W.Frag) (ρ : Rho) (H : Hp) : D → V → Prop
  | .non, v => v = .non
  | .bl b, v => v = .bl b
  | .int i, v => v = .int i
  | .str x, v => v = .str ⟨x.toArray⟩
  | .tup xs, v => ∃ a ys, v = .ref a ∧ SqT K H a ys ∧ RDs K ρ H xs ys
  | .ref n, v => ∃ a, v = .ref a ∧ ρ n = some a
def RDs (K : PySem.W.Frag) (ρ : Rho) (H : Hp) : List D → List V → Prop
  | [], ys => ys = []
  | x :: xs, ys => ∃ y r, ys = y :: r ∧ RD K ρ H x y ∧ RDs K ρ H xs r
end

/-- a caught exception at a: its class, where its own dict stands -/
def ExK (cls : Value) (d : Option Addr) (a : Addr) : HO := .ext fun h => ∃ (oe : Obj) (vs : Array Value), h.get? a = some oe ∧ Zc cls d oe ∧ oe.data = .fields vs
/-- what stands for ever once it stands -/
def Inert (o : HO) : Prop := (∃ xs, o = .tup xs) ∨ (∃ ob u, o = .frz ob u) ∨ (∃ c q, o = LamX.CodeO c q) ∨ (∃ fs, o = .xd fs) ∨ (∃ cls d a, o = ExK cls d a)
structure Ext (ρ : Rho) (H : Hp) (ρ' : Rho) (H' : Hp) : Prop where
  map : ∀ n a, ρ n = some a → ρ' n = some a
  keep : ∀ a o, H a = some o → Inert o → H' a = some o
theorem Ext.refl {ρ : Rho} {H : Hp} : Ext ρ H ρ H := ⟨fun _ _ h => h, fun _ _ h _ => h⟩
theorem Ext.trans {ρ ρ1 ρ2 : Rho} {H H1 H2 : Hp} (a : Ext ρ H ρ1 H1) (b : Ext ρ1 H1 ρ2 H2) : Ext ρ H ρ2 H2 :=
  ⟨fun n x h => b.map n x (a.map n x h), fun x o h i => b.keep x o (a.keep x o h i) i⟩
theorem Ext.seqT {K : PySem.W.Frag} {ρ ρ' : Rho} {H H' : Hp} {a : Addr} {ys : List V} (e : Ext ρ H ρ' H') (h : SqT K H a ys) : SqT K H' a ys := by
  rcases h with (h | ⟨o, h⟩) | h
  · exact .inl (.inl (e.keep _ _ h (.inl ⟨_, rfl⟩)))
  · exact .inl (.inr ⟨o, e.keep _ _ h (.inr (.inl ⟨_, _, rfl⟩))⟩)
  · exact .inr h
section
variable {K : PySem.W.Frag} {ρ ρ' : Rho} {H H' : Hp}
mutual
theorem RD.ext (e : Ext ρ H ρ' H') : ∀ {d : D} {v : V}, RD K ρ H d v → RD K ρ' H' d v
  | .non, _, h => by unfold RD at h ⊢; exact h
  | .bl _, _, h => by unfold RD at h ⊢; exact h
  | .int _, _, h => by unfold RD at h ⊢; exact h
  | .str _, _, h => by unfold RD at h ⊢; exact h
  | .tup xs, _, h => by
    unfold RD at h ⊢
    obtain ⟨a, ys, h1, h2, h3⟩ := h
    exact ⟨a, ys, h1, e.seqT h2, RDs.ext e h3⟩
  | .ref n, _, h => by
    unfold RD at h ⊢
    obtain ⟨a, h1, h2⟩ := h
    exact ⟨a, h1, e.map _ _ h2⟩
theorem RDs.ext (e : Ext ρ H ρ' H') : ∀ {ds : List D} {vs : List V}, RDs K ρ H ds vs → RDs K ρ' H' ds vs
  | [], _, h => by unfold RDs at h ⊢; exact h
  | _ :: _, _, h => by
    unfold RDs at h ⊢
    obtain ⟨y, r, h1, h2, h3⟩ := h
    exact ⟨y, r, h1, RD.ext e h2, RDs.ext e h3⟩
end
theorem RDs.nil : RDs K ρ H [] [] := by unfold RDs; rfl
theorem RDs.cons {d : D} {v : V} {ds : List D} {vs : List V} (h : RD K ρ H d v) (t : RDs K ρ H ds vs) : RDs K ρ H (d :: ds) (v :: vs) := by
  unfold RDs
  exact ⟨v, vs, rfl, h, t⟩
theorem RDs.length : ∀ {ds : List D} {vs : List V}, RDs K ρ H ds vs → ds.length = vs.length
  | [], _, h => by unfold RDs at h; rw [h]; rfl
  | _ :: _, _, h => by
    unfold RDs at h
    obtain ⟨y, r, h1, h2, h3⟩ := h
    rw [h1, List.length_cons, List.length_cons, RDs.length h3]
theorem RDs.get : ∀ {ds : List D} {vs : List V} {i : Nat} {d : D}, RDs K ρ H ds vs → ds[i]? = some d → ∃ v, vs[i]? = some v ∧ RD K ρ H d v
  | [], _, _, _, h, e => by simp at e
  | _ :: _, _, 0, _, h, e => by
    unfold RDs at h
    obtain ⟨y, r, h1, h2, h3⟩ := h
    simp at e
    subst e
    exact ⟨y, by rw [h1]; rfl, h2⟩
  | _ :: _, _, i + 1, _, h, e => by
    unfold RDs at h
    obtain ⟨y, r, h1, h2, h3⟩ := h
    obtain ⟨v, e1, e2⟩ := RDs.get (i := i) h3 (by simpa using e)
    exact ⟨v, by rw [h1]; simpa using e1, e2⟩
theorem RDs.set {x : D} {v : V} (r : RD K ρ H x v) : ∀ {ds : List D} {vs : List V} (i : Nat), RDs K ρ H ds vs → RDs K ρ H (ds.set i x) (vs.set i v)
  | [], _, _, h => by unfold RDs at h; rw [h]; exact RDs.nil
  | _ :: _, _, 0, h => by
    unfold RDs at h
    obtain ⟨y, r', h1, h2, h3⟩ := h
    rw [h1]
    exact RDs.cons r h3
  | _ :: _, _, i + 1, h => by
    unfold RDs at h
    obtain ⟨y, r', h1, h2, h3⟩ := h
    rw [h1]
    exact RDs.cons h2 (RDs.set r i h3)
theorem RDs.append : ∀ {ds es : List D} {vs us : List V}, RDs K ρ H ds vs → RDs K ρ H es us → RDs K ρ H (ds ++ es) (vs ++ us)
  | [], _, _, _, h, t => by unfold RDs at h; rw [h]; exact t
  | _ :: _, _, _, _, h, t => by
    unfold RDs at h
    obtain ⟨y, r', h1, h2, h3⟩ := h
    rw [h1]
    exact RDs.cons h2 (RDs.append h3 t)
theorem RDs.take : ∀ {ds : List D} {vs : List V} (n : Nat), RDs K ρ H ds vs → RDs K ρ H (ds.take n) (vs.take n)
  | _, _, 0, _ => by rw [List.take_zero, List.take_zero]; exact RDs.nil
  | [], _, _ + 1, h => by unfold RDs at h; rw [h]; exact RDs.nil
  | _ :: _, _, n + 1, h => by
    unfold RDs at h
    obtain ⟨y, r', h1, h2, h3⟩ := h
    rw [h1]
    exact RDs.cons h2 (RDs.take n h3)
theorem RDs.drop : ∀ {ds : List D} {vs : List V} (n : Nat), RDs K ρ H ds vs → RDs K ρ H (ds.drop n) (vs.drop n)
  | _, _, 0, h => h
  | [], _, _ + 1, h => by unfold RDs at h; rw [h]; exact RDs.nil
  | _ :: _, _, n + 1, h => by
    unfold RDs at h
    obtain ⟨y, r', h1, h2, h3⟩ := h
    rw [h1]
    exact RDs.drop n h3
theorem RDs.of_cons {d : D} {ds : List D} {vs : List V} (h : RDs K ρ H (d :: ds) vs) : ∃ y r, vs = y :: r ∧ RD K ρ H d y ∧ RDs K ρ H ds r := by
  unfold RDs at h
  exact h
theorem RDs.of_nil {vs : List V} (h : RDs K ρ H [] vs) : vs = [] := by
  unfold RDs at h
  exact h
theorem RDs.strs : ∀ (xs : List (List Nat)), RDs K ρ H (xs.map D.str) ((xs.map fun x => (⟨x.toArray⟩ : Str)).map V.str)
  | [] => RDs.nil
  | x :: r => RDs.cons (by unfold RD; rfl) (RDs.strs r)
end

/-! ## A memory, slots -/
def ObR (S : Sg) (ρ : Rho) (H : Hp) (a : Addr) : Ob → Prop
  | .lst xs => ∃ ys, H a = some (.lst ys) ∧ RDs S.K ρ H xs ys
  | .frz xs => ∃ o ys, H a = some (.frz o (.lst ys)) ∧ RDs S.K ρ H xs ys
  | .dic kvs => ∃ (ks : List Key) (vs : List V), H a = some (.dK (ks.zip vs)) ∧ ks.length = vs.length ∧ RDs S.K ρ H (kvs.map (·.1)) (ks.map kV) ∧ RDs S.K ρ H (kvs.map (·.2)) vs
  | .ins c fs => ∃ dx vs, H a = some (.ins (S.ca c) dx ((fs.map fun p => S.fn p.1).zip vs)) ∧ RDs S.K ρ H (fs.map (·.2)) vs ∧ ∀ p ∈ fs, p.1 < S.nf
  | .exc c fs => ∃ dx vs, H a = some (ExK (.ref (S.ca c)) (some dx) a) ∧ H dx = some (.xd ((fs.map fun p => S.fn p.1).zip vs)) ∧ RDs S.K ρ H (fs.map (·.2)) vs ∧ ∀ p ∈ fs, p.1 < S.nf
structure RM (S : Sg) (ρ : Rho) (H : Hp) (m : Mem) : Prop where
  lt : ∀ n a, ρ n = some a → n < m.next
  inj : ∀ n k a, ρ n = some a → ρ k = some a → n = k
  ob : ∀ n o, m.get n = some o → ∃ a, ρ n = some a ∧ ObR S ρ H a o
  full : ∀ n a, ρ n = some a → ∃ o, m.get n = some o
  tabs : LamX.Tabs S.T H
theorem codeO_tbl {c : Addr} {q : Str} {ps : Array Value} : LamX.CodeO c q ≠ .tbl ps := fun z => by
  unfold LamX.CodeO at z
  cases z
theorem exK_tbl {cls : Value} {d : Option Addr} {a : Addr} {ps : Array Value} : ExK cls d a ≠ .tbl ps := fun z => by
  unfold ExK at z
  cases z
theorem ObR.at_ {S : Sg} {ρ : Rho} {H : Hp} {a : Addr} {o : Ob} (h : ObR S ρ H a o) : ∃ u, H a = some u ∧ ∀ ps, u ≠ .tbl ps := by
  cases o with
  | lst xs =>
    obtain ⟨ys, h1, _⟩ := h
    exact ⟨_, h1, fun ps z => by cases z⟩
  | frz xs =>
    obtain ⟨o, ys, h1, _⟩ := h
    exact ⟨_, h1, fun ps z => by cases z⟩
  | dic kvs =>
    obtain ⟨ks, vs, h1, _⟩ := h
    exact ⟨_, h1, fun ps z => by cases z⟩
  | ins c fs =>
    obtain ⟨dx, vs, h1, _⟩ := h
    exact ⟨_, h1, fun ps z => by cases z⟩
  | exc c fs =>
    obtain ⟨dx, vs, h1, _⟩ := h
    exact ⟨_, h1, fun ps => exK_tbl⟩
theorem RM.at_ {S : Sg} {ρ : Rho} {H : Hp} {m : Mem} (rm : RM S ρ H m) {n : Nat} {a : Addr} (e : ρ n = some a) : ∃ u, H a = some u ∧ ∀ ps, u ≠ .tbl ps := by
  obtain ⟨o, h⟩ := rm.full n a e
  obtain ⟨b, h1, h2⟩ := rm.ob n o h
  rw [e] at h1
  cases h1
  exact h2.at_
theorem RM.has {S : Sg} {ρ : Rho} {H : Hp} {m : Mem} (rm : RM S ρ H m) : ∀ n a, ρ n = some a → ∃ o, H a = some o := fun n a e => by
  obtain ⟨u, h, _⟩ := rm.at_ e
  exact ⟨u, h⟩
abbrev Lo := List (Option D)
structure SR (S : Sg) (ρ : Rho) (H : Hp) (σ : L2.St) (e : Lo) : Prop where
  len : σ.length = e.length
  at_ : ∀ (i : Nat) (d : D), e[i]? = some (some d) → ∃ v, σ[i]? = some (some v) ∧ RD S.K ρ H d v
theorem SR.ext {S : Sg} {ρ ρ' : Rho} {H H' : Hp} {σ : L2.St} {e : Lo} (h : SR S ρ H σ e) (x : Ext ρ H ρ' H') : SR S ρ' H' σ e :=
  ⟨h.len, fun i d q => let ⟨v, h1, h2⟩ := h.at_ i d q; ⟨v, h1, h2.ext x⟩⟩
theorem SR.set {S : Sg} {ρ : Rho} {H : Hp} {σ : L2.St} {e : Lo} {d : D} {v : V} (h : SR S ρ H σ e) (i : Nat) (r : RD S.K ρ H d v) : SR S ρ H (σ.set i (some v)) (e.set i (some d)) := by
  refine ⟨by rw [List.length_set, List.length_set, h.len], fun j x q => ?_⟩
  by_cases hj : i = j
  · subst hj
    by_cases hl : i < e.length
    · rw [List.getElem?_set_self hl] at q
      have q' := Option.some.inj (Option.some.inj q)
      rw [← q']
      exact ⟨v, List.getElem?_set_self (by rw [h.len]; exact hl), r⟩
    · rw [List.getElem?_eq_none (by rw [List.length_set]; omega)] at q
      cases q
  · rw [List.getElem?_set_ne hj] at q
    obtain ⟨u, h1, h2⟩ := h.at_ j x q
    exact ⟨u, by rw [List.getElem?_set_ne hj]; exact h1, h2⟩
/-- a slot is emptied -/
theorem SR.clear {S : Sg} {ρ : Rho} {H : Hp} {σ : L2.St} {e : Lo} (h : SR S ρ H σ e) (i : Nat) (x : Option V) : SR S ρ H (σ.set i x) (e.set i none) := by
  refine ⟨by rw [List.length_set, List.length_set, h.len], fun j y q => ?_⟩
  by_cases hj : i = j
  · subst hj
    by_cases hl : i < e.length
    · rw [List.getElem?_set_self hl] at q
      cases q
    · rw [List.getElem?_eq_none (by rw [List.length_set]; omega)] at q
      cases q
  · rw [List.getElem?_set_ne hj] at q
    obtain ⟨u, h1, h2⟩ := h.at_ j y q
    exact ⟨u, by rw [List.getElem?_set_ne hj]; exact h1, h2⟩

/-! ## Results -/
/-- an exception of the program: its class, its fields -/
structure Xn where
  cls : Nat
  fs : List (Nat × D)
inductive R (α : Type) where
  | ok (a : α) (m : Mem)
  | err (x : Xn) (m : Mem)
  | bad
def R.bind {α β : Type} (r : R α) (f : α → Mem → R β) : R β := match r with
  | .ok a m => f a m
  | .err x m => .err x m
  | .bad => .bad
abbrev E := Lo → Mem → R D
abbrev Es := Lo → Mem → R (List D)
abbrev Et := Lo → Mem → R Bool
/-- an exception as it stands in the heap -/
def RX (S : Sg) (ρ : Rho) (H : Hp) (x : Xn) (cls : Value) (d : Option Addr) : Prop :=
  cls = .ref (S.ca x.cls) ∧ ∃ (dx : Addr) (vs : List V), d = some dx ∧ H dx = some (.xd ((x.fs.map fun p => S.fn p.1).zip vs)) ∧ RDs S.K ρ H (x.fs.map (·.2)) vs ∧ ∀ p ∈ x.fs, p.1 < S.nf
/-- what is wanted behind a result, from ρ and H on -/
def Post {α β : Type} (S : Sg) (Rel : Rho → Hp → α → β → Prop) (W : XK) (r : R α) (ρ : Rho) (H : Hp) (Q : β → Hp → Prop) : Prop := match r with
  | .ok a m => ∀ ρ' H' b, Ext ρ H ρ' H' → RM S ρ' H' m → Rel ρ' H' a b → Q b H'
  | .err x m => ∀ ρ' H' cls d, Ext ρ H ρ' H' → RM S ρ' H' m → RX S ρ' H' x cls d → W cls d H'
  | .bad => False
abbrev PostV (S : Sg) := Post (α := D) (β := V) S (RD S.K)
abbrev PostA (S : Sg) := Post (α := List D) (β := List V) S (RDs S.K)
abbrev PostT (S : Sg) := Post (α := Bool) (β := Bool) S (fun _ _ a b => b = a)
theorem Post.ext {α β : Type} {S : Sg} {Rel : Rho → Hp → α → β → Prop} {W : XK} {r : R α} {ρ ρ' : Rho} {H H' : Hp} {Q : β → Hp → Prop} (h : Post S Rel W r ρ H Q) (x : Ext ρ H ρ' H') : Post S Rel W r ρ' H' Q := by
  cases r with
  | ok a m => exact fun ρ2 H2 b e => h ρ2 H2 b (x.trans e)
  | err y m => exact fun ρ2 H2 c d e => h ρ2 H2 c d (x.trans e)
  | bad => exact h
/-- an expression's reading by its mirror -/
def I (S : Sg) (W : XK) (c : E) : TE := fun σ H Q => ∃ ρ e m, SR S ρ H σ e ∧ RM S ρ H m ∧ PostV S W (c e m) ρ H Q
def IA (S : Sg) (W : XK) (c : Es) : TA := fun σ H Q => ∃ ρ e m, SR S ρ H σ e ∧ RM S ρ H m ∧ PostA S W (c e m) ρ H Q
def IT (S : Sg) (W : XK) (c : Et) : TT := fun σ H Q => ∃ ρ e m, SR S ρ H σ e ∧ RM S ρ H m ∧ PostT S W (c e m) ρ H Q
/-- the state behind a part, from ρ and H on -/
structure Now {α β : Type} (S : Sg) (Rel : Rho → Hp → α → β → Prop) (ρ : Rho) (H : Hp) (σ : L2.St) (e : Lo) (a : α) (m : Mem) (b : β) (ρ' : Rho) (H' : Hp) : Prop where
  ext : Ext ρ H ρ' H'
  rm : RM S ρ' H' m
  rel : Rel ρ' H' a b
  sr : SR S ρ' H' σ e
section
variable {S : Sg} {W : XK} {σ : L2.St} {H : Hp} {ρ : Rho} {e : Lo} {m : Mem}
theorem Post.bind {α β γ δ : Type} {Rel : Rho → Hp → α → β → Prop} {Rel2 : Rho → Hp → γ → δ → Prop} {r : R α} {f : α → Mem → R γ} {Q : δ → Hp → Prop} (sr : SR S ρ H σ e) (h : Post S Rel2 W (r.bind f) ρ H Q) :
    Post S Rel W r ρ H fun b H' => ∃ ρ' a m', Now S Rel ρ H σ e a m' b ρ' H' ∧ Post S Rel2 W (f a m') ρ' H' Q := by
  cases r with
  | ok a m => exact fun ρ' H' b x r1 r2 => ⟨ρ', a, m, ⟨x, r1, r2, sr.ext x⟩, Post.ext (show Post S Rel2 W (f a m) ρ H Q from h) x⟩
  | err y m => exact h
  | bad => exact h
theorem I.step {c : E} {δ γ : Type} {Rel2 : Rho → Hp → γ → δ → Prop} {f : D → Mem → R γ} {Q : δ → Hp → Prop} (sr : SR S ρ H σ e) (rm : RM S ρ H m) (h : Post S Rel2 W ((c e m).bind f) ρ H Q) :
    I S W c σ H fun v H' => ∃ ρ' a m', Now S (RD S.K) ρ H σ e a m' v ρ' H' ∧ Post S Rel2 W (f a m') ρ' H' Q := ⟨ρ, e, m, sr, rm, Post.bind sr h⟩
theorem IA.step {c : Es} {δ γ : Type} {Rel2 : Rho → Hp → γ → δ → Prop} {f : List D → Mem → R γ} {Q : δ → Hp → Prop} (sr : SR S ρ H σ e) (rm : RM S ρ H m) (h : Post S Rel2 W ((c e m).bind f) ρ H Q) :
    IA S W c σ H fun v H' => ∃ ρ' a m', Now S (RDs S.K) ρ H σ e a m' v ρ' H' ∧ Post S Rel2 W (f a m') ρ' H' Q := ⟨ρ, e, m, sr, rm, Post.bind sr h⟩
theorem IT.step {c : Et} {δ γ : Type} {Rel2 : Rho → Hp → γ → δ → Prop} {f : Bool → Mem → R γ} {Q : δ → Hp → Prop} (sr : SR S ρ H σ e) (rm : RM S ρ H m) (h : Post S Rel2 W ((c e m).bind f) ρ H Q) :
    IT S W c σ H fun v H' => ∃ ρ' a m', Now S (fun _ _ a b => b = a) ρ H σ e a m' v ρ' H' ∧ Post S Rel2 W (f a m') ρ' H' Q := ⟨ρ, e, m, sr, rm, Post.bind sr h⟩
/-- an end at this very state -/
theorem Post.here {α β : Type} {Rel : Rho → Hp → α → β → Prop} {a : α} {b : β} {Q : β → Hp → Prop} (h : Post S Rel W (.ok a m) ρ H Q) (rm : RM S ρ H m) (r : Rel ρ H a b) : Q b H := h ρ H b Ext.refl rm r
end
end Mi
end

section
set_option Elab.async false
set_option linter.all false
set_option maxRecDepth 100000
set_option autoImplicit false
set_option maxHeartbeats 1000000
namespace Mi
open PySem PySem.Spec PyProof.Rows L2

/-! ## New objects, changed objects -/
def Fix (o : HO) : Prop := Inert o ∨ ∃ ps, o = .tbl ps
theorem fix_lst {xs : List V} : ¬ Fix (.lst xs) := by
  rintro ((⟨_, h⟩ | ⟨_, _, h⟩ | ⟨_, _, h⟩ | ⟨_, h⟩ | ⟨_, _, _, h⟩) | ⟨_, h⟩)
  · cases h
  · cases h
  · unfold LamX.CodeO at h; cases h
  · cases h
  · unfold ExK at h; cases h
  · cases h
theorem fix_dK {xs : List (Key × V)} : ¬ Fix (.dK xs) := by
  rintro ((⟨_, h⟩ | ⟨_, _, h⟩ | ⟨_, _, h⟩ | ⟨_, h⟩ | ⟨_, _, _, h⟩) | ⟨_, h⟩)
  · cases h
  · cases h
  · unfold LamX.CodeO at h; cases h
  · cases h
  · unfold ExK at h; cases h
  · cases h
theorem fix_ins {C dx : Addr} {fs : List (Str × V)} : ¬ Fix (.ins C dx fs) := by
  rintro ((⟨_, h⟩ | ⟨_, _, h⟩ | ⟨_, _, h⟩ | ⟨_, h⟩ | ⟨_, _, _, h⟩) | ⟨_, h⟩)
  · cases h
  · cases h
  · unfold LamX.CodeO at h; cases h
  · cases h
  · unfold ExK at h; cases h
  · cases h
theorem tabs_upd {T : List (Addr × Str)} {H : Hp} {a : Addr} {o : HO} (t : LamX.Tabs T H) (h : ∀ u, H a = some u → ¬ Fix u) : LamX.Tabs T (upd H a o) := fun p hp => by
  obtain ⟨ps, h1, h2, h3⟩ := t p hp
  have k : ∀ b u, H b = some u → Fix u → upd H a o b = some u := fun b u e f => by
    rw [upd_ne (fun z => by rw [z] at e; exact h u e f)]
    exact e
  refine ⟨ps, k _ _ h1 (.inr ⟨_, rfl⟩), h2, fun pos cv hc => ?_⟩
  obtain ⟨c, e1, e2⟩ := h3 pos cv hc
  exact ⟨c, e1, k _ _ e2 (.inl (.inr (.inr (.inl ⟨_, _, rfl⟩))))⟩
theorem ObR.ext {S : Sg} {ρ ρ' : Rho} {H H' : Hp} {a : Addr} {o : Ob} (h : ObR S ρ H a o) (x : Ext ρ H ρ' H') (e : H' a = H a) : ObR S ρ' H' a o := by
  cases o with
  | lst xs =>
    obtain ⟨ys, h1, h2⟩ := h
    exact ⟨ys, e.trans h1, h2.ext x⟩
  | frz xs =>
    obtain ⟨o, ys, h1, h2⟩ := h
    exact ⟨o, ys, e.trans h1, h2.ext x⟩
  | dic kvs =>
    obtain ⟨ks, vs, h1, h2, h3, h4⟩ := h
    exact ⟨ks, vs, e.trans h1, h2, h3.ext x, h4.ext x⟩
  | ins c fs =>
    obtain ⟨dx, vs, h1, h2, h3⟩ := h
    exact ⟨dx, vs, e.trans h1, h2.ext x, h3⟩
  | exc c fs =>
    obtain ⟨dx, vs, h1, h2, h3, h4⟩ := h
    exact ⟨dx, vs, e.trans h1, x.keep _ _ h2 (.inr (.inr (.inr (.inl ⟨_, rfl⟩)))), h3.ext x, h4⟩
section
variable {S : Sg} {ρ : Rho} {H : Hp} {m : Mem} {p a : Addr} {o : Ob} {o' : HO} {n : Nat}
theorem ext_upd (h : ∀ u, H a = some u → ¬ Fix u) : Ext ρ H ρ (upd H a o') :=
  ⟨fun _ _ h => h, fun b u e i => by rw [upd_ne (fun z => by rw [z] at e; exact h u e (.inl i))]; exact e⟩
theorem none_fix (hp : H p = none) : ∀ u, H p = some u → ¬ Fix u := fun u e => by rw [hp] at e; cases e
/-- a new object that the memory doesn't know -/
theorem RM.free (rm : RM S ρ H m) (hp : H p = none) : RM S ρ (upd H p o') m := by
  have x : Ext ρ H ρ (upd H p o') := ext_upd (none_fix hp)
  have ne : ∀ n a, ρ n = some a → a ≠ p := fun n a e z => by
    obtain ⟨u, q⟩ := rm.has n a e
    rw [z, hp] at q
    cases q
  refine ⟨rm.lt, rm.inj, fun n u e => ?_, rm.full, tabs_upd rm.tabs (none_fix hp)⟩
  obtain ⟨a, h1, h2⟩ := rm.ob n u e
  exact ⟨a, h1, h2.ext x (upd_ne (ne n a h1))⟩
def rnew (ρ : Rho) (m : Mem) (p : Addr) : Rho := fun n => if n = m.next then some p else ρ n
theorem rnew_self (ρ : Rho) (m : Mem) (p : Addr) : rnew ρ m p m.next = some p := if_pos rfl
theorem RM.rnew_old (rm : RM S ρ H m) {n : Nat} {a : Addr} (e : ρ n = some a) : rnew ρ m p n = some a := by
  unfold rnew
  rw [if_neg (Nat.ne_of_lt (rm.lt n a e))]
  exact e
theorem RM.extNew (rm : RM S ρ H m) (hp : H p = none) : Ext ρ H (rnew ρ m p) (upd H p o') :=
  ⟨fun n a e => rm.rnew_old e, (ext_upd (ρ := ρ) (none_fix hp)).keep⟩
theorem RM.new (rm : RM S ρ H m) (hp : H p = none) (ho : ObR S (rnew ρ m p) (upd H p o') p o) : RM S (rnew ρ m p) (upd H p o') (m.new o) := by
  have x : Ext ρ H (rnew ρ m p) (upd H p o') := rm.extNew hp
  have ne : ∀ n a, ρ n = some a → a ≠ p := fun n a e z => by
    obtain ⟨u, q⟩ := rm.has n a e
    rw [z, hp] at q
    cases q
  refine ⟨fun n a e => ?_, fun n k a e1 e2 => ?_, fun n u e => ?_, fun n a e => ?_, tabs_upd rm.tabs (none_fix hp)⟩
  · unfold rnew at e
    split at e
    · rename_i z
      rw [z]
      exact Nat.lt_succ_self _
    · exact Nat.lt_succ_of_lt (rm.lt n a e)
  · unfold rnew at e1 e2
    split at e1
    · rename_i z
      split at e2
      · rename_i z2
        rw [z, z2]
      · exact absurd (Option.some.inj e1).symm (ne k a e2)
    · split at e2
      · exact absurd (Option.some.inj e2).symm (ne n a e1)
      · exact rm.inj n k a e1 e2
  · rw [Mem.get_new] at e
    split at e
    · rename_i z
      cases e
      exact ⟨p, by rw [z]; exact rnew_self _ _ _, ho⟩
    · obtain ⟨a, h1, h2⟩ := rm.ob n u e
      exact ⟨a, rm.rnew_old h1, h2.ext x (upd_ne (ne n a h1))⟩
  · rw [Mem.get_new]
    unfold rnew at e
    split at e
    · rename_i z
      rw [if_pos z]
      exact ⟨_, rfl⟩
    · rename_i z
      rw [if_neg z]
      exact rm.full n a e
theorem RM.set (rm : RM S ρ H m) (hn : ρ n = some a) (hf : ∀ u, H a = some u → ¬ Fix u) (ho : ObR S ρ (upd H a o') a o) : RM S ρ (upd H a o') (m.set n o) := by
  have x : Ext ρ H ρ (upd H a o') := ext_upd hf
  refine ⟨rm.lt, rm.inj, fun k u e => ?_, fun k b e => ?_, tabs_upd rm.tabs hf⟩
  · rw [Mem.get_set] at e
    split at e
    · rename_i z
      cases e
      exact ⟨a, by rw [z]; exact hn, ho⟩
    · rename_i z
      obtain ⟨b, h1, h2⟩ := rm.ob k u e
      exact ⟨b, h1, h2.ext x (upd_ne fun q => z (rm.inj k n a (by rw [← q]; exact h1) hn))⟩
  · rw [Mem.get_set]
    by_cases q : k = n
    · rw [if_pos q]
      exact ⟨_, rfl⟩
    · rw [if_neg q]
      exact rm.full k b e
theorem RD.ref (rho : ρ n = some a) {K : PySem.W.Frag} : RD K ρ H (.ref n) (.ref a) := by
  unfold RD
  exact ⟨a, rfl, rho⟩
theorem RD.tup' {K : PySem.W.Frag} {xs : List D} {ys : List V} (h : SqT K H a ys) (r : RDs K ρ H xs ys) : RD K ρ H (.tup xs) (.ref a) := by
  unfold RD
  exact ⟨a, ys, rfl, h, r⟩
theorem RD.of_tup {K : PySem.W.Frag} {xs : List D} {v : V} (h : RD K ρ H (.tup xs) v) : ∃ a ys, v = .ref a ∧ SqT K H a ys ∧ RDs K ρ H xs ys := by
  unfold RD at h
  exact h
theorem RD.of_ref {K : PySem.W.Frag} {v : V} (h : RD K ρ H (.ref n) v) : ∃ a, v = .ref a ∧ ρ n = some a := by
  unfold RD at h
  exact h
theorem RD.of_int {K : PySem.W.Frag} {i : Int} {v : V} (h : RD K ρ H (.int i) v) : v = .int i := by
  unfold RD at h
  exact h
theorem RD.of_str {K : PySem.W.Frag} {x : List Nat} {v : V} (h : RD K ρ H (.str x) v) : v = .str ⟨x.toArray⟩ := by
  unfold RD at h
  exact h
theorem RD.of_bl {K : PySem.W.Frag} {b : Bool} {v : V} (h : RD K ρ H (.bl b) v) : v = .bl b := by
  unfold RD at h
  exact h
theorem RD.of_non {K : PySem.W.Frag} {v : V} (h : RD K ρ H .non v) : v = .non := by
  unfold RD at h
  exact h
theorem RD.non {K : PySem.W.Frag} : RD K ρ H .non .non := by unfold RD; rfl
theorem RD.bl {K : PySem.W.Frag} {b : Bool} : RD K ρ H (.bl b) (.bl b) := by unfold RD; rfl
theorem RD.int {K : PySem.W.Frag} {i : Int} : RD K ρ H (.int i) (.int i) := by unfold RD; rfl
theorem RD.str {K : PySem.W.Frag} {x : List Nat} : RD K ρ H (.str x) (.str ⟨x.toArray⟩) := by unfold RD; rfl
theorem RD.strS {K : PySem.W.Frag} {x : Str} : RD K ρ H (.str x.cps.toList) (.str x) := by
  unfold RD
  rw [Array.toArray_toList]
/-- the answer is a value, the memory stays -/
theorem Post.val {W : XK} {d : D} {v : V} {Q : VK} (h : PostV S W (.ok d m) ρ H Q) (rm : RM S ρ H m) (r : RD S.K ρ H d v) : Q v H := Post.here h rm r
/-- a new list -/
theorem Post.lst {W : XK} {xs : List D} {ys : List V} {Q : VK} (h : PostV S W (.ok (.ref m.next) (m.new (.lst xs))) ρ H Q) (rm : RM S ρ H m) (r : RDs S.K ρ H xs ys) : ∀ p, H p = none → Q (.ref p) (upd H p (.lst ys)) := fun p hp =>
  h _ _ _ (rm.extNew hp) (rm.new hp ⟨ys, upd_same, r.ext (rm.extNew hp)⟩) (RD.ref (rnew_self _ _ _))
/-- a new tuple -/
theorem Post.tup {W : XK} {xs : List D} {ys : List V} {Q : VK} (h : PostV S W (.ok (.tup xs) m) ρ H Q) (rm : RM S ρ H m) (r : RDs S.K ρ H xs ys) : ∀ p, H p = none → Q (.ref p) (upd H p (.tup ys)) := fun p hp =>
  h _ _ _ (ext_upd (none_fix hp)) (rm.free hp) (RD.tup' (SqT.of upd_same) (r.ext (ext_upd (none_fix hp))))
/-- a list is changed -/
theorem Post.wlst {W : XK} {d : D} {v : V} {xs : List D} {ys zs : List V} {Q : VK} (h : PostV S W (.ok d (m.set n (.lst xs))) ρ H Q) (rm : RM S ρ H m) (hn : ρ n = some a) (ha : H a = some (.lst zs)) (r : RDs S.K ρ H xs ys) (rd : RD S.K ρ H d v) : Q v (upd H a (.lst ys)) := by
  have hf : ∀ u, H a = some u → ¬ Fix u := fun u e => by
    rw [ha] at e
    cases e
    exact fix_lst
  exact h _ _ _ (ext_upd hf) (rm.set hn hf ⟨ys, upd_same, r.ext (ext_upd hf)⟩) (rd.ext (ext_upd hf))
end

theorem Post.mono {α β : Type} {S : Sg} {Rel : Rho → Hp → α → β → Prop} {W : XK} {r : R α} {ρ : Rho} {H : Hp} {Q Q' : β → Hp → Prop} (h : Post S Rel W r ρ H Q) (k : ∀ b H', Q b H' → Q' b H') : Post S Rel W r ρ H Q' := by
  cases r with
  | ok a m => exact fun ρ2 H2 b x r1 r2 => k b H2 (h ρ2 H2 b x r1 r2)
  | err y m => exact h
  | bad => exact h
theorem I.mono {S : Sg} {W : XK} {c : E} {σ : L2.St} {H : Hp} {Q Q' : VK} (h : I S W c σ H Q) (k : ∀ v H', Q v H' → Q' v H') : I S W c σ H Q' :=
  let ⟨ρ, e, m, sr, rm, q⟩ := h; ⟨ρ, e, m, sr, rm, q.mono k⟩
theorem IA.mono {S : Sg} {W : XK} {c : Es} {σ : L2.St} {H : Hp} {Q Q' : List V → Hp → Prop} (h : IA S W c σ H Q) (k : ∀ v H', Q v H' → Q' v H') : IA S W c σ H Q' :=
  let ⟨ρ, e, m, sr, rm, q⟩ := h; ⟨ρ, e, m, sr, rm, q.mono k⟩
theorem IT.mono {S : Sg} {W : XK} {c : Et} {σ : L2.St} {H : Hp} {Q Q' : Bool → Hp → Prop} (h : IT S W c σ H Q) (k : ∀ v H', Q v H' → Q' v H') : IT S W c σ H Q' :=
  let ⟨ρ, e, m, sr, rm, q⟩ := h; ⟨ρ, e, m, sr, rm, q.mono k⟩

/-! ## The context -/
class Ok (S : Sg) (W : outParam XK) (X : Cx) (k : outParam Nat) : Prop where
  K : X.K = S.K
  pass : Passes (L2.CX X.prog X.w) X W
  own : PassesOwn (model X.prog X.w) X.A X.env X.xe
  calm : X.calm = true
  room : Room k X.A
  inj : ∀ i j, i < S.nf → j < S.nf → S.fn i = S.fn j → i = j
theorem _root_.L2.PE.mono {X : Cx} {e : Expr} {t t' : TE} (h : PE X e t) (k : ∀ σ H Q, t' σ H Q → t σ H Q) : PE X e t' := ⟨fun pins s σ H Q I q => h.run pins s σ H Q I (k _ _ _ q)⟩
theorem _root_.L2.PA.mono {X : Cx} {e : List Expr} {t t' : TA} (h : PA X e t) (k : ∀ σ H Q, t' σ H Q → t σ H Q) : PA X e t' := ⟨fun pos pins s σ H Q I q => h.run pos pins s σ H Q I (k _ _ _ q)⟩
theorem _root_.L2.PT.mono {X : Cx} {e : Expr} {t t' : TT} (h : PT X e t) (k : ∀ σ H Q, t' σ H Q → t σ H Q) : PT X e t' := ⟨fun pins s σ H Q I q => h.run pins s σ H Q I (k _ _ _ q)⟩
theorem _root_.L2.PW.mono {X : Cx} {e : Expr} {t t' : TT} (h : PW X e t) (k : ∀ σ H Q, t' σ H Q → t σ H Q) : PW X e t' := ⟨fun wh pins s σ H Q I q => h.run wh pins s σ H Q I (k _ _ _ q)⟩

/-! ## Names and constants -/
def eVar (i : Nat) : E := fun e m => match e[i]? with
  | some (some d) => .ok d m
  | _ => .bad
def eC (d : D) : E := fun _ m => .ok d m
section
variable {X : Cx} {S : Sg} {W : XK} {pos : Pos} {j : Nat}
theorem me_var (i : Nat) {x : Str} (hN : X.N[i]? = some x := by rfl) (hv : Vis X.env.scope x := by first | exact Or.inl rfl | exact Or.inr (Or.inl rfl) | exact Or.inr (Or.inr rfl)) (hd : (x == ("__debug__" : Str)) = false := by decide)
    (hcd : (x == ("__classdict__" : Str)) = false := by decide) : PE X (.Name x pos) (I S W (eVar i)) := by
  refine (pe_var hN hv hd hcd).mono fun σ H Q h => ?_
  obtain ⟨ρ, e, m, sr, rm, h⟩ := h
  unfold eVar at h
  cases q : e[i]? with
  | none =>
    rw [q] at h
    exact h.elim
  | some o =>
    cases o with
    | none =>
      rw [q] at h
      exact h.elim
    | some d =>
      rw [q] at h
      obtain ⟨v, h1, h2⟩ := sr.at_ i d q
      exact ⟨v, h1, Post.val h rm h2⟩
theorem me_const {e : Expr} {d : D} {v : V} (h : PE X e (tC v)) (r : ∀ K ρ H, RD K ρ H d v) : PE X e (I S W (eC d)) := by
  refine h.mono fun σ H Q h => ?_
  obtain ⟨ρ, e, m, sr, rm, h⟩ := h
  exact Post.val h rm (r _ _ _)
theorem me_int {i : Int} : PE X (.Constant (.int i) j pos) (I S W (eC (.int i))) := me_const pe_int fun _ _ _ => RD.int
theorem me_bl {b : Bool} : PE X (.Constant (.bool b) j pos) (I S W (eC (.bl b))) := me_const pe_bl fun _ _ _ => RD.bl
theorem me_non : PE X (.Constant .none j pos) (I S W (eC .non)) := me_const pe_non fun _ _ _ => RD.non
theorem me_str {x : Str} (l : List Nat) (h : x = ⟨l.toArray⟩ := by rfl) : PE X (.Constant (.str x) j pos) (I S W (eC (.str l))) := by
  subst h
  exact me_const pe_str fun _ _ _ => RD.str
/-- a constant of the module: a number, a text -/
theorem me_gint {x : Str} {i : Int} {t : Tok} (hg : Gl X x) (hm : X.mg x = some (.int i t)) (hd : (x == ("__debug__" : Str)) = false := by decide) : PE X (.Name x pos) (I S W (eC (.int i))) := me_const (pe_glob (v := .int i) hg hm ⟨t, rfl⟩ hd) fun _ _ _ => RD.int
theorem me_gstr {x : Str} {z : Str} {t : Tok} (l : List Nat) (hg : Gl X x) (hm : X.mg x = some (.str z t)) (h : z = ⟨l.toArray⟩ := by rfl) (hd : (x == ("__debug__" : Str)) = false := by decide) : PE X (.Name x pos) (I S W (eC (.str l))) := by
  subst h
  exact me_const (pe_glob (v := .str ⟨l.toArray⟩) hg hm ⟨t, rfl⟩ hd) fun _ _ _ => RD.str
/-- flat data as values -/
def D.v : D → Option V
  | .non => some .non
  | .bl b => some (.bl b)
  | .int i => some (.int i)
  | .str x => some (.str ⟨x.toArray⟩)
  | _ => none
theorem D.v_ok {d : D} {v : V} (h : d.v = some v) (K : PySem.W.Frag) (ρ : Rho) (H : Hp) : RD K ρ H d v := by
  cases d with
  | non => cases h; exact RD.non
  | bl b => cases h; exact RD.bl
  | int i => cases h; exact RD.int
  | str x => cases h; exact RD.str
  | _ => cases h
theorem D.vs_ok : ∀ {ds : List D} {vs : List V}, ds.map D.v = vs.map some → ∀ (K : PySem.W.Frag) (ρ : Rho) (H : Hp), RDs K ρ H ds vs
  | [], [], _, _, _, _ => RDs.nil
  | [], _ :: _, h, _, _, _ => by cases h
  | _ :: _, [], h, _, _, _ => by cases h
  | _ :: _, _ :: _, h, K, ρ, H => by
    injection h with h1 h2
    exact RDs.cons (D.v_ok h1 K ρ H) (D.vs_ok h2 K ρ H)
/-- a tuple of the module -/
theorem me_gtup {k : Nat} [c : Ok S W X k] {x : Str} {a : Addr} {vs : List V} (ds : List D) (hg : Gl X x) (hm : X.mg x = some (.ref a)) (ht : ∀ H, SqT S.K H a vs) (hv : ds.map D.v = vs.map some := by rfl) (hd : (x == ("__debug__" : Str)) = false := by decide) :
    PE X (.Name x pos) (I S W (eC (.tup ds))) := by
  refine (pe_glob hg hm (v := .ref a) rfl hd).mono fun σ H Q h => ?_
  obtain ⟨ρ, e, m, sr, rm, h⟩ := h
  exact Post.val h rm (RD.tup' (ht H) (D.vs_ok hv _ _ _))
end

/-! ## Lists of arguments, displays -/
def esNil : Es := fun _ m => .ok [] m
def esCons (a : E) (r : Es) : Es := fun e m => (a e m).bind fun x m1 => (r e m1).bind fun xs m2 => .ok (x :: xs) m2
def lineOk (n : Nat) : Bool := Nat.ble n 16777216
theorem lineOk_le {n : Nat} (h : lineOk n = true) : n ≤ sizeLine := by
  rw [sizeLine_eq]
  exact Nat.le_of_ble_eq_true h
def eTup (c : Es) : E := fun e m => (c e m).bind fun xs m1 => match lineOk xs.length with
  | true => .ok (.tup xs) m1
  | false => .bad
def eLst (c : Es) : E := fun e m => (c e m).bind fun xs m1 => match lineOk xs.length with
  | true => .ok (.ref m1.next) (m1.new (.lst xs))
  | false => .bad
section
variable {X : Cx} {S : Sg} {W : XK} {pos : Pos} {a : Expr} {es : List Expr} {ca : E} {cs : Es}
theorem ma_nil : PA X [] (IA S W esNil) := pa_nil.mono fun σ H Q h => by
  obtain ⟨ρ, e, m, sr, rm, h⟩ := h
  exact Post.here h rm RDs.nil
theorem ma_cons (ha : PE X a (I S W ca)) (hr : PA X es (IA S W cs)) (hs : starEach (a :: es) X.env = (false, eval a X.env) :: starEach es X.env := by rfl) : PA X (a :: es) (IA S W (esCons ca cs)) := by
  refine (pa_cons ha hr hs).mono fun σ H Q ⟨ρ, e, m, sr, rm, h⟩ => ?_
  exact (I.step (c := ca) sr rm h).mono fun v H1 ⟨ρ1, x, m1, N, h1⟩ => (IA.step (c := cs) N.sr N.rm h1).mono fun vs H2 ⟨ρ2, xs, m2, N2, h2⟩ => Post.here h2 N2.rm (RDs.cons (N.rel.ext N2.ext) N2.rel)
theorem me_tup {n : Nat} (ha : PA X es (IA S W cs)) : PE X (.Tuple es n pos) (I S W (eTup cs)) := by
  refine (pe_tup ha).mono fun σ H Q ⟨ρ, e, m, sr, rm, h⟩ => ?_
  refine (IA.step (c := cs) sr rm h).mono fun vs H1 ⟨ρ1, xs, m1, N, h1⟩ => ?_
  cases q : lineOk xs.length with
  | false =>
    rw [q] at h1
    exact h1.elim
  | true =>
    rw [q] at h1
    exact ⟨by rw [← N.rel.length]; exact lineOk_le q, Post.tup h1 N.rm N.rel⟩
theorem me_lst (ha : PA X es (IA S W cs)) : PE X (.List es pos) (I S W (eLst cs)) := by
  refine (pe_lst ha).mono fun σ H Q ⟨ρ, e, m, sr, rm, h⟩ => ?_
  refine (IA.step (c := cs) sr rm h).mono fun vs H1 ⟨ρ1, xs, m1, N, h1⟩ => ?_
  cases q : lineOk xs.length with
  | false =>
    rw [q] at h1
    exact h1.elim
  | true =>
    rw [q] at h1
    exact ⟨by rw [← N.rel.length]; exact lineOk_le q, Post.lst h1 N.rm N.rel⟩
end

/-! ## Operators -/
def eBin (f : D → D → Mem → R D) (a b : E) : E := fun e m => (a e m).bind fun x m1 => (b e m1).bind fun y m2 => f x y m2
/-- a rule on values does what f does on data -/
def OpM (S : Sg) (W : XK) (r : R2) (f : D → D → Mem → R D) : Prop := ∀ {ρ : Rho} {H : Hp} {m : Mem} {x y : D} {x' y' : V} {Q : VK}, RM S ρ H m → RD S.K ρ H x x' → RD S.K ρ H y y' → PostV S W (f x y m) ρ H Q → r x' y' H Q
section
variable {X : Cx} {S : Sg} {W : XK} {pos : Pos} {a b c : Expr} {ca cb cc : E} {r r' : R2} {f g : D → D → Mem → R D} {k : Nat}
theorem bin_mono (hm : OpM S W r f) {σ : L2.St} {H : Hp} {Q : VK} (h : I S W (eBin f ca cb) σ H Q) : tOp r (I S W ca) (I S W cb) σ H Q := by
  obtain ⟨ρ, e, m, sr, rm, h⟩ := h
  exact (I.step (c := ca) sr rm h).mono fun v H1 ⟨ρ1, x, m1, N, h1⟩ => (I.step (c := cb) N.sr N.rm h1).mono fun u H2 ⟨ρ2, y, m2, N2, h2⟩ => hm N2.rm (N.rel.ext N2.ext) N2.rel h2
theorem me_bin {op : Operator} (ho : OpR X (binaryOp op) r) (hm : OpM S W r f) (ha : PE X a (I S W ca)) (hb : PE X b (I S W cb)) : PE X (.BinOp a op b pos) (I S W (eBin f ca cb)) := (pe_op ho ha hb).mono fun _ _ _ => bin_mono hm
theorem me_cmp {op : CmpOp} (ho : OpR X (compareOp op) r) (hm : OpM S W r f) (ha : PE X a (I S W ca)) (hb : PE X b (I S W cb)) (hk : behindInMarks op b = false := by first | exact nomark _ | rfl) : PE X (.Compare a [op] [b] pos) (I S W (eBin f ca cb)) :=
  (pe_cmpR ho ha hb hk).mono fun _ _ _ => bin_mono hm
/-- an answer that is True or False -/
def blOf (d : D) (m : Mem) : R Bool := match d with
  | .bl b => .ok b m
  | _ => .bad
def tOf (c : E) : Et := fun e m => (c e m).bind blOf
theorem blOf_post {d : D} {m : Mem} {ρ : Rho} {H : Hp} {v : V} {Q : Bool → Hp → Prop} (h : PostT S W (blOf d m) ρ H Q) (rm : RM S ρ H m) (rd : RD S.K ρ H d v) : ∃ k, v = .bl k ∧ Q k H := by
  cases d with
  | bl b => exact ⟨b, RD.of_bl rd, Post.here h rm rfl⟩
  | _ => exact h.elim
theorem bind_bind {α β γ : Type} (r : R α) (f : α → Mem → R β) (g : β → Mem → R γ) : (r.bind f).bind g = r.bind fun a m => (f a m).bind g := by
  cases r <;> rfl
theorem I.test {c : E} {σ : L2.St} {H : Hp} {Q : Bool → Hp → Prop} (h : IT S W (tOf c) σ H Q) : I S W c σ H fun v H' => ∃ k, v = .bl k ∧ Q k H' := by
  obtain ⟨ρ, e, m, sr, rm, h⟩ := h
  exact (I.step (c := c) sr rm h).mono fun v H1 ⟨ρ1, x, m1, N, h1⟩ => blOf_post h1 N.rm N.rel
theorem mt_cmp {op : CmpOp} (ho : OpR X (compareOp op) r) (hm : OpM S W r f) (ha : PE X a (I S W ca)) (hb : PE X b (I S W cb)) (hk : behindInMarks op b = false := by first | exact nomark _ | rfl) : PT X (.Compare a [op] [b] pos) (IT S W (tOf (eBin f ca cb))) :=
  (pt_cmpR ho ha hb hk).mono fun σ H Q h => bin_mono hm (I.test h)
/-- two comparisons -/
def eChain (f g : D → D → Mem → R D) (a b c : E) : E := fun e m => (a e m).bind fun x m1 => (b e m1).bind fun y m2 => (f x y m2).bind fun z m3 => (blOf z m3).bind fun k m4 => if k = true then (c e m4).bind fun w m5 => g y w m5 else .ok (.bl false) m4
end
/-- an operation that makes no objects and raises nothing: its answer, as it stands -/
def pureOp (f : D → D → Option D) : D → D → Mem → R D := fun x y m => match f x y with
  | some d => .ok d m
  | none => .bad
section
variable {X : Cx} {S : Sg} {W : XK} {k : Nat}
/-- int by int -/
def intOp (g : Int → Int → Option Int) : D → D → Mem → R D := fun x y m => match x, y with
  | .int i, .int j => match g i j with
    | some z => .ok (.int z) m
    | none => .bad
  | _, _ => .bad
theorem intOp_m {C : Int → Int → Prop} {z : Int → Int → Int} {g : Int → Int → Option Int} (h : ∀ i j w, g i j = some w → C i j ∧ w = z i j) : OpM S W (rI C fun i j => .int (z i j)) (intOp g) := by
  intro ρ H m x y x' y' Q rm rx ry q
  cases x with
  | int i =>
    cases y with
    | int j =>
      have q' : PostV S W (match g i j with | some z => .ok (.int z) m | none => .bad) ρ H Q := q
      cases e : g i j with
      | none =>
        rw [e] at q'
        exact q'.elim
      | some w =>
        rw [e] at q'
        obtain ⟨h1, h2⟩ := h i j w e
        rw [h2] at q'
        exact ⟨i, j, RD.of_int rx, RD.of_int ry, h1, Post.val q' rm RD.int⟩
    | _ => exact q.elim
  | _ => exact q.elim
theorem intOp0_m {z : Int → Int → Int} : OpM S W (rI0 fun i j => .int (z i j)) (intOp fun i j => some (z i j)) := by
  intro ρ H m x y x' y' Q rm rx ry q
  cases x with
  | int i =>
    cases y with
    | int j => exact ⟨i, j, RD.of_int rx, RD.of_int ry, Post.val q rm RD.int⟩
    | _ => exact q.elim
  | _ => exact q.elim
def intCmp (g : Int → Int → Bool) : D → D → Mem → R D := fun x y m => match x, y with
  | .int i, .int j => .ok (.bl (g i j)) m
  | _, _ => .bad
theorem intCmp_m {z : Int → Int → Bool} : OpM S W (rI0 fun i j => .bl (z i j)) (intCmp z) := by
  intro ρ H m x y x' y' Q rm rx ry q
  cases x with
  | int i =>
    cases y with
    | int j => exact ⟨i, j, RD.of_int rx, RD.of_int ry, Post.val q rm RD.bl⟩
    | _ => exact q.elim
  | _ => exact q.elim
end

theorem opR_or {X : Cx} {f : Value → Value → Sem Value} {r r' : R2} (h : OpR X f r) (h' : OpR X f r') : OpR X f (fun x y H Q => r x y H Q ∨ r' x y H Q) := by
  intro pins s σ H x y v u Q I rx ry q
  rcases q with q | q
  · exact h pins s σ H x y v u Q I rx ry q
  · exact h' pins s σ H x y v u Q I rx ry q
section
variable {S : Sg} {W : XK} {ρ : Rho} {H : Hp} {m : Mem}
theorem RM.lst (rm : RM S ρ H m) {n : Nat} {xs : List D} (h : m.get n = some (.lst xs)) : ∃ a ys, ρ n = some a ∧ H a = some (.lst ys) ∧ RDs S.K ρ H xs ys := by
  obtain ⟨a, h1, ys, h2, h3⟩ := rm.ob n _ h
  exact ⟨a, ys, h1, h2, h3⟩
/-- the items of a list: one's own, or one that is only read -/
def lstOf (m : Mem) (n : Nat) : Option (List D) := match m.get n with
  | some (.lst xs) => some xs
  | some (.frz xs) => some xs
  | _ => none
theorem RM.lstOf (rm : RM S ρ H m) {n : Nat} {xs : List D} (h : lstOf m n = some xs) : ∃ a ys, ρ n = some a ∧ SqL S.K H a ys ∧ RDs S.K ρ H xs ys := by
  unfold Mi.lstOf at h
  cases q : m.get n with
  | none =>
    rw [q] at h
    cases h
  | some o =>
    rw [q] at h
    cases o with
    | lst zs =>
      cases h
      obtain ⟨a, ys, h1, h2, h3⟩ := rm.lst q
      exact ⟨a, ys, h1, SqL.of h2, h3⟩
    | frz zs =>
      cases h
      obtain ⟨a, h1, o, ys, h2, h3⟩ := rm.ob n _ q
      exact ⟨a, ys, h1, .inl (.inr ⟨o, h2⟩), h3⟩
    | _ => cases h
end
/-! ### + -/
def opAdd : D → D → Mem → R D := fun x y m => match x, y with
  | .int i, .int j => .ok (.int (i + j)) m
  | .str a, .str b => match lineOk (a.length + b.length) with
    | true => .ok (.str (a ++ b)) m
    | false => .bad
  | .tup a, .tup b => match lineOk (a.length + b.length) with
    | true => .ok (.tup (a ++ b)) m
    | false => .bad
  | .ref n, .ref k => match m.get n, m.get k with
    | some (.lst a), some (.lst b) => (match lineOk (a.length + b.length) with
      | true => .ok (.ref m.next) (m.new (.lst (a ++ b)))
      | false => .bad)
    | _, _ => .bad
  | _, _ => .bad
def rAddA (K : PySem.W.Frag) : R2 := fun x y H Q => rI0 (fun i j => .int (i + j)) x y H Q ∨ (fun x y H Q => ∃ i j, x = .str i ∧ y = .str j ∧ i.length + j.length ≤ sizeLine ∧ Q (.str (i ++ j)) H : R2) x y H Q ∨ rCatA K x y H Q ∨ rCat x y H Q
theorem or_add {X : Cx} {S : Sg} {W : XK} {k : Nat} [c : Ok S W X k] : OpR X (binaryOp .Add) (rAddA S.K) := by
  have e := c.K
  rw [← e]
  exact opR_or op_add (opR_or op_add_str (opR_or op_catA op_cat))
theorem str_app (a b : List Nat) : (⟨a.toArray⟩ : Str) ++ ⟨b.toArray⟩ = ⟨(a ++ b).toArray⟩ := by
  show (⟨a.toArray ++ b.toArray⟩ : Str) = _
  simp
theorem str_len (a : List Nat) : (⟨a.toArray⟩ : Str).length = a.length := by
  show a.toArray.size = _
  simp
theorem om_add {S : Sg} {W : XK} : OpM S W (rAddA S.K) opAdd := by
  intro ρ H m x y x' y' Q rm rx ry q
  cases x with
  | int i =>
    cases y with
    | int j => exact .inl ⟨i, j, RD.of_int rx, RD.of_int ry, Post.val q rm RD.int⟩
    | _ => exact q.elim
  | str a =>
    cases y with
    | str b =>
      have q' : PostV S W (match lineOk (a.length + b.length) with | true => .ok (.str (a ++ b)) m | false => .bad) ρ H Q := q
      cases e : lineOk (a.length + b.length) with
      | false =>
        rw [e] at q'
        exact q'.elim
      | true =>
        rw [e] at q'
        refine .inr (.inl ⟨_, _, RD.of_str rx, RD.of_str ry, ?_, ?_⟩)
        · rw [str_len, str_len]
          exact lineOk_le e
        · rw [str_app]
          exact Post.val q' rm RD.str
    | _ => exact q.elim
  | tup a =>
    cases y with
    | tup b =>
      have q' : PostV S W (match lineOk (a.length + b.length) with | true => .ok (.tup (a ++ b)) m | false => .bad) ρ H Q := q
      cases e : lineOk (a.length + b.length) with
      | false =>
        rw [e] at q'
        exact q'.elim
      | true =>
        rw [e] at q'
        obtain ⟨p, xs, e1, s1, r1⟩ := RD.of_tup rx
        obtain ⟨p2, ys, e2, s2, r2⟩ := RD.of_tup ry
        refine .inr (.inr (.inl ⟨p, p2, xs, ys, e1, e2, s1, s2, ?_, fun z => ?_, fun _ z => ?_, fun _ _ => Post.tup q' rm (r1.append r2)⟩))
        · rw [← r1.length, ← r2.length]
          exact lineOk_le e
        · refine Post.val q' rm (RD.tup' s2 ?_)
          have := r1.append r2
          rw [z] at this
          exact this
        · refine Post.val q' rm (RD.tup' s1 ?_)
          have := r1.append r2
          rw [z, List.append_nil] at this
          exact this
    | _ => exact q.elim
  | ref n =>
    cases y with
    | ref k =>
      have q' : PostV S W (match m.get n, m.get k with
        | some (.lst a), some (.lst b) => (match lineOk (a.length + b.length) with
          | true => .ok (.ref m.next) (m.new (.lst (a ++ b)))
          | false => .bad)
        | _, _ => .bad) ρ H Q := q
      split at q'
      · rename_i a b e1 e2
        obtain ⟨p, xs, h1, h2, h3⟩ := rm.lst e1
        obtain ⟨p2, ys, g1, g2, g3⟩ := rm.lst e2
        obtain ⟨b1, f1, f2⟩ := RD.of_ref rx
        obtain ⟨b2, f3, f4⟩ := RD.of_ref ry
        rw [h1] at f2
        rw [g1] at f4
        cases f2
        cases f4
        cases e : lineOk (a.length + b.length) with
        | false =>
          rw [e] at q'
          exact q'.elim
        | true =>
          rw [e] at q'
          refine .inr (.inr (.inr ⟨p, p2, xs, ys, f1, f3, h2, g2, ?_, Post.lst q' rm (h3.append g3)⟩))
          rw [← h3.length, ← g3.length]
          exact lineOk_le e
      · exact q'.elim
    | _ => exact q.elim
  | _ => exact q.elim
/-! ### numbers -/
abbrev opSub : D → D → Mem → R D := intOp fun i j => some (i - j)
def small64 (i : Int) : Bool := decide (-(2 ^ 64) < i) && decide (i < 2 ^ 64)
def mulG (i j : Int) : Option Int := match small64 i || small64 j with
  | true => some (i * j)
  | false => none
def modG (i j : Int) : Option Int := match decide (0 < j) with
  | true => some (i % j)
  | false => none
def divG (i j : Int) : Option Int := match decide (0 < j) && decide (j < 1073741824) with
  | true => some (i / j)
  | false => none
def powG (i j : Int) : Option Int := match decide (0 ≤ j) && (decide (j ≤ 1000000) && small64 i) with
  | true => some (i ^ j.toNat)
  | false => none
theorem om_sub {S : Sg} {W : XK} : OpM S W (rI0 fun i j => .int (i - j)) opSub := intOp0_m
theorem small64_of {i : Int} (h : small64 i = true) : -(2 ^ 64) < i ∧ i < 2 ^ 64 := by
  unfold small64 at h
  rw [Bool.and_eq_true] at h
  exact ⟨of_decide_eq_true h.1, of_decide_eq_true h.2⟩
theorem om_mod {S : Sg} {W : XK} : OpM S W (rI (fun _ j => 0 < j) fun i j => .int (i % j)) (intOp modG) := intOp_m fun i j w h => by
  unfold modG at h
  split at h
  · rename_i e
    exact ⟨of_decide_eq_true e, (Option.some.inj h).symm⟩
  · cases h
theorem om_div {S : Sg} {W : XK} : OpM S W (rI CDiv fun i j => .int (i / j)) (intOp divG) := intOp_m fun i j w h => by
  unfold divG at h
  split at h
  · rename_i e
    rw [Bool.and_eq_true] at e
    exact ⟨⟨of_decide_eq_true e.1, of_decide_eq_true e.2⟩, (Option.some.inj h).symm⟩
  · cases h
theorem om_pow {S : Sg} {W : XK} : OpM S W (rI CPow fun i j => .int (i ^ j.toNat)) (intOp powG) := intOp_m fun i j w h => by
  unfold powG at h
  split at h
  · rename_i e
    rw [Bool.and_eq_true, Bool.and_eq_true] at e
    obtain ⟨h1, h2⟩ := small64_of e.2.2
    exact ⟨⟨of_decide_eq_true e.1, of_decide_eq_true e.2.1, by omega⟩, (Option.some.inj h).symm⟩
  · cases h
theorem om_muli {S : Sg} {W : XK} : OpM S W (rI CMul fun i j => .int (i * j)) (intOp mulG) := intOp_m fun i j w h => by
  unfold mulG at h
  split at h
  · rename_i e
    rw [Bool.or_eq_true] at e
    exact ⟨e.elim (fun z => .inl (small64_of z)) fun z => .inr (small64_of z), (Option.some.inj h).symm⟩
  · cases h
end Mi
end

section
set_option Elab.async false
set_option linter.all false
set_option maxRecDepth 100000
set_option autoImplicit false
set_option maxHeartbeats 1000000
namespace Mi
open PySem PySem.Spec PyProof.Rows L2

/-! ## Data, compared -/
def optAll {α : Type} : List (Option α) → Option (List α)
  | [] => some []
  | a :: r => a.bind fun x => (optAll r).map fun l => x :: l
theorem optAll_cons {α : Type} (a : Option α) (r : List (Option α)) : optAll (a :: r) = a.bind fun x => (optAll r).map fun l => x :: l := rfl
/-- what a value is as data: lists by what they hold now -/
def pd : Nat → Mem → D → Option PyData
  | _, _, .non => some .none
  | _, _, .bl b => some (.bool b)
  | _, _, .int i => some (.int i)
  | _, _, .str x => some (.str ⟨x.toArray⟩)
  | 0, _, _ => none
  | f + 1, m, .tup xs => (optAll (xs.map (pd f m))).map .tuple
  | f + 1, m, .ref n => match lstOf m n with
    | some xs => (optAll (xs.map (pd f m))).map .list
    | none => none
section
variable {S : Sg} {ρ : Rho} {H : Hp} {m : Mem}
theorem pd_all {f : Nat} (ih : ∀ (d : D) (v : V) (p : PyData), pd f m d = some p → RD S.K ρ H d v → Dp S.K H v p) : ∀ (ds : List D) (vs : List V) (ps : List PyData), optAll (ds.map (pd f m)) = some ps → RDs S.K ρ H ds vs → DpAll S.K H vs ps
  | [], vs, ps, h, r => by
    cases h
    rw [r.of_nil]
    exact .nil
  | d :: ds, vs, ps, h, r => by
    obtain ⟨y, t, e, r1, r2⟩ := r.of_cons
    rw [List.map_cons, optAll_cons] at h
    cases q : pd f m d with
    | none =>
      rw [q] at h
      cases h
    | some p =>
      rw [q, Option.bind_some] at h
      cases q2 : optAll (ds.map (pd f m)) with
      | none =>
        rw [q2] at h
        cases h
      | some l =>
        rw [q2] at h
        cases h
        rw [e]
        exact .cons (ih d y p q r1) (pd_all ih ds t l q2 r2)
theorem pd_ok (rm : RM S ρ H m) : ∀ (f : Nat) (d : D) (v : V) (p : PyData), pd f m d = some p → RD S.K ρ H d v → Dp S.K H v p := by
  intro f
  induction f with
  | zero =>
    intro d v p h r
    cases d with
    | non => cases h; rw [RD.of_non r]; exact .non
    | bl b => cases h; rw [RD.of_bl r]; exact .bl b
    | int i => cases h; rw [RD.of_int r]; exact .int i
    | str x => cases h; rw [RD.of_str r]; exact .str _
    | tup xs => cases h
    | ref n => cases h
  | succ f ih =>
    intro d v p h r
    cases d with
    | non => cases h; rw [RD.of_non r]; exact .non
    | bl b => cases h; rw [RD.of_bl r]; exact .bl b
    | int i => cases h; rw [RD.of_int r]; exact .int i
    | str x => cases h; rw [RD.of_str r]; exact .str _
    | tup xs =>
      obtain ⟨a, ys, e, s1, r1⟩ := RD.of_tup r
      have h' : (optAll (xs.map (pd f m))).map PyData.tuple = some p := h
      cases q : optAll (xs.map (pd f m)) with
      | none =>
        rw [q] at h'
        cases h'
      | some ps =>
        rw [q] at h'
        cases h'
        rw [e]
        exact .tup s1 (pd_all ih xs ys ps q r1)
    | ref n =>
      obtain ⟨a, e, hr⟩ := RD.of_ref r
      have h' : (match lstOf m n with | some xs => (optAll (xs.map (pd f m))).map PyData.list | none => none) = some p := h
      cases q0 : lstOf m n with
      | none =>
        rw [q0] at h'
        cases h'
      | some xs =>
        rw [q0] at h'
        obtain ⟨b, ys, h1, h2, h3⟩ := rm.lstOf q0
        rw [hr] at h1
        cases h1
        have h'' : (optAll (xs.map (pd f m))).map PyData.list = some p := h'
        cases q : optAll (xs.map (pd f m)) with
        | none =>
          rw [q] at h''
          cases h''
        | some ps =>
          rw [q] at h''
          cases h''
          rw [e]
          exact .lst h2 (pd_all ih xs ys ps q h3)
end
/-- signs that are signs -/
def cpOk : List Nat → Bool
  | [] => true
  | c :: r => Nat.blt c 1114112 && cpOk r
theorem cpOk_ok {x : List Nat} (h : cpOk x = true) : PyData.strOk ⟨x.toArray⟩ = true := by
  have key : ∀ l : List Nat, cpOk l = true → ∀ c ∈ l, c < 1114112 := by
    intro l
    induction l with
    | nil => intro _ c hc; cases hc
    | cons a r ih =>
      intro h c hc
      have h' : (Nat.blt a 1114112 && cpOk r) = true := h
      rw [Bool.and_eq_true] at h'
      rcases List.mem_cons.mp hc with e | hc
      · rw [e]
        have q := h'.1
        unfold Nat.blt at q
        exact Nat.lt_of_succ_le (Nat.le_of_ble_eq_true q)
      · exact ih h'.2 c hc
  unfold PyData.strOk
  simp only [List.all_toArray, List.all_eq_true]
  intro c hc
  exact decide_eq_true (key x h c hc)
/-- what may be compared -/
def sh : Nat → Mem → D → Bool
  | _, _, .non => true
  | _, _, .bl _ => true
  | _, _, .int _ => true
  | _, _, .str x => cpOk x
  | 0, _, _ => false
  | f + 1, m, .tup xs => xs.all (sh f m)
  | f + 1, m, .ref n => match lstOf m n with
    | some xs => xs.all (sh f m)
    | none => false
def eqAll (g : D → D → Bool) : List D → List D → Bool
  | [], [] => true
  | x :: xs, y :: ys => g x y && eqAll g xs ys
  | _, _ => false
def b2i : Bool → Int
  | true => 1
  | false => 0
/-- == of data -/
def eqd : Nat → Mem → D → D → Bool
  | _, _, .non, .non => true
  | _, _, .bl a, .bl b => a == b
  | _, _, .bl a, .int j => b2i a == j
  | _, _, .int i, .bl b => i == b2i b
  | _, _, .int i, .int j => i == j
  | _, _, .str x, .str y => x == y
  | f + 1, m, .tup xs, .tup ys => eqAll (eqd f m) xs ys
  | f + 1, m, .ref n, .ref k => match lstOf m n, lstOf m k with
    | some xs, some ys => eqAll (eqd f m) xs ys
    | _, _ => false
  | _, _, _, _ => false
theorem sh_all {m : Mem} {f : Nat} (ih : ∀ x, sh f m x = true → ∃ d, pd f m x = some d ∧ d.canLay0 = true ∧ d.depth ≤ f) : ∀ xs : List D, xs.all (sh f m) = true → ∃ ds, optAll (xs.map (pd f m)) = some ds ∧ PyData.canLayAll0 ds = true ∧ PyData.depthAll ds ≤ f
  | [], _ => ⟨[], rfl, by unfold PyData.canLayAll0; rfl, by unfold PyData.depthAll; exact Nat.zero_le _⟩
  | x :: xs, h => by
    rw [List.all_cons, Bool.and_eq_true] at h
    obtain ⟨d, h1, h2, h3⟩ := ih x h.1
    obtain ⟨ds, h4, h5, h6⟩ := sh_all ih xs h.2
    refine ⟨d :: ds, by rw [List.map_cons, optAll_cons, h1, Option.bind_some, h4]; rfl, ?_, ?_⟩
    · unfold PyData.canLayAll0
      rw [h2, h5] <;> rfl
    · unfold PyData.depthAll
      omega
theorem sh_ok {m : Mem} : ∀ (f : Nat) (x : D), sh f m x = true → ∃ d, pd f m x = some d ∧ d.canLay0 = true ∧ d.depth ≤ f := by
  intro f
  induction f with
  | zero =>
    intro x h
    cases x with
    | non => exact ⟨.none, rfl, by unfold PyData.canLay0; rfl, by unfold PyData.depth; exact Nat.le_refl _⟩
    | bl b => exact ⟨.bool b, rfl, by unfold PyData.canLay0; rfl, by unfold PyData.depth; exact Nat.le_refl _⟩
    | int i => exact ⟨.int i, rfl, by unfold PyData.canLay0; rfl, by unfold PyData.depth; exact Nat.le_refl _⟩
    | str x => exact ⟨.str _, rfl, by unfold PyData.canLay0; exact cpOk_ok h, by unfold PyData.depth; exact Nat.le_refl _⟩
    | tup xs => cases h
    | ref n => cases h
  | succ f ih =>
    intro x h
    cases x with
    | non => exact ⟨.none, rfl, by unfold PyData.canLay0; rfl, by unfold PyData.depth; exact Nat.zero_le _⟩
    | bl b => exact ⟨.bool b, rfl, by unfold PyData.canLay0; rfl, by unfold PyData.depth; exact Nat.zero_le _⟩
    | int i => exact ⟨.int i, rfl, by unfold PyData.canLay0; rfl, by unfold PyData.depth; exact Nat.zero_le _⟩
    | str x => exact ⟨.str _, rfl, by unfold PyData.canLay0; exact cpOk_ok h, by unfold PyData.depth; exact Nat.zero_le _⟩
    | tup xs =>
      obtain ⟨ds, h1, h2, h3⟩ := sh_all ih xs h
      refine ⟨.tuple ds, ?_, by unfold PyData.canLay0; exact h2, by unfold PyData.depth; omega⟩
      show (optAll (xs.map (pd f m))).map PyData.tuple = _
      rw [h1]
      rfl
    | ref n =>
      have h' : (match lstOf m n with | some xs => xs.all (sh f m) | none => false) = true := h
      cases e : lstOf m n with
      | none =>
        rw [e] at h'
        cases h'
      | some xs =>
        rw [e] at h'
        obtain ⟨ds, h1, h2, h3⟩ := sh_all ih xs h'
        refine ⟨.list ds, ?_, by unfold PyData.canLay0; exact h2, by unfold PyData.depth; omega⟩
        show (match lstOf m n with | some xs => (optAll (xs.map (pd f m))).map PyData.list | none => none) = _
        rw [e]
        show (optAll (xs.map (pd f m))).map PyData.list = _
        rw [h1]
        rfl
theorem sbeq (x y : List Nat) : ((⟨x.toArray⟩ : Str) == ⟨y.toArray⟩) = (x == y) := by
  have e : ((⟨x.toArray⟩ : Str) = ⟨y.toArray⟩) ↔ x = y := by
    constructor
    · intro h
      have h2 := congrArg (fun s : Str => s.cps.toList) h
      simpa using h2
    · intro h
      rw [h]
  by_cases h : x = y
  · rw [beq_iff_eq.mpr (e.mpr h), beq_iff_eq.mpr h]
  · rw [beq_eq_false_iff_ne.mpr (fun z => h (e.mp z)), beq_eq_false_iff_ne.mpr h]
theorem pd_tup {f : Nat} {m : Mem} {xs : List D} {d : PyData} (h : pd f m (.tup xs) = some d) : ∃ g ds, f = g + 1 ∧ optAll (xs.map (pd g m)) = some ds ∧ d = .tuple ds := by
  cases f with
  | zero => cases h
  | succ g =>
    have h' : (optAll (xs.map (pd g m))).map PyData.tuple = some d := h
    cases e : optAll (xs.map (pd g m)) with
    | none =>
      rw [e] at h'
      cases h'
    | some ds =>
      rw [e] at h'
      exact ⟨g, ds, rfl, e, (Option.some.inj h').symm⟩
theorem pd_ref {f : Nat} {m : Mem} {n : Nat} {d : PyData} (h : pd f m (.ref n) = some d) : ∃ g xs ds, f = g + 1 ∧ lstOf m n = some xs ∧ optAll (xs.map (pd g m)) = some ds ∧ d = .list ds := by
  cases f with
  | zero => cases h
  | succ g =>
    have h' : (match lstOf m n with | some xs => (optAll (xs.map (pd g m))).map PyData.list | none => none) = some d := h
    cases e0 : lstOf m n with
    | none =>
      rw [e0] at h'
      cases h'
    | some xs =>
      rw [e0] at h'
      have h2 : (optAll (xs.map (pd g m))).map PyData.list = some d := h'
      cases e : optAll (xs.map (pd g m)) with
      | none =>
        rw [e] at h2
        cases h2
      | some ds =>
        rw [e] at h2
        exact ⟨g, xs, ds, rfl, rfl, e, (Option.some.inj h2).symm⟩
theorem eqAll_ok {m : Mem} {f : Nat} (ih : ∀ x y d e, pd f m x = some d → pd f m y = some e → eqd f m x y = PyData.eqv d e) : ∀ (xs ys : List D) (ds es : List PyData), optAll (xs.map (pd f m)) = some ds → optAll (ys.map (pd f m)) = some es → eqAll (eqd f m) xs ys = PyData.eqvAll ds es
  | [], [], ds, es, h1, h2 => by
    cases h1
    cases h2
    unfold PyData.eqvAll
    rfl
  | [], y :: ys, ds, es, h1, h2 => by
    cases h1
    rw [List.map_cons, optAll_cons] at h2
    cases e : pd f m y with
    | none =>
      rw [e] at h2
      cases h2
    | some d =>
      rw [e, Option.bind_some] at h2
      cases e2 : optAll (ys.map (pd f m)) with
      | none =>
        rw [e2] at h2
        cases h2
      | some l =>
        rw [e2] at h2
        cases h2
        unfold PyData.eqvAll
        rfl
  | x :: xs, [], ds, es, h1, h2 => by
    cases h2
    rw [List.map_cons, optAll_cons] at h1
    cases e : pd f m x with
    | none =>
      rw [e] at h1
      cases h1
    | some d =>
      rw [e, Option.bind_some] at h1
      cases e2 : optAll (xs.map (pd f m)) with
      | none =>
        rw [e2] at h1
        cases h1
      | some l =>
        rw [e2] at h1
        cases h1
        unfold PyData.eqvAll
        rfl
  | x :: xs, y :: ys, ds, es, h1, h2 => by
    rw [List.map_cons, optAll_cons] at h1 h2
    cases e : pd f m x with
    | none =>
      rw [e] at h1
      cases h1
    | some d =>
      cases e' : pd f m y with
      | none =>
        rw [e'] at h2
        cases h2
      | some d' =>
        rw [e, Option.bind_some] at h1
        rw [e', Option.bind_some] at h2
        cases e2 : optAll (xs.map (pd f m)) with
        | none =>
          rw [e2] at h1
          cases h1
        | some l =>
          cases e3 : optAll (ys.map (pd f m)) with
          | none =>
            rw [e3] at h2
            cases h2
          | some l' =>
            rw [e2] at h1
            rw [e3] at h2
            cases h1
            cases h2
            unfold PyData.eqvAll
            rw [← ih x y d d' e e', ← eqAll_ok ih xs ys l l' e2 e3]
            rfl
theorem pd_flat {f : Nat} {m : Mem} : pd f m .non = some .none ∧ (∀ b, pd f m (.bl b) = some (.bool b)) ∧ (∀ i, pd f m (.int i) = some (.int i)) ∧ ∀ x, pd f m (.str x) = some (.str ⟨x.toArray⟩) := by
  cases f with
  | zero => exact ⟨rfl, fun _ => rfl, fun _ => rfl, fun _ => rfl⟩
  | succ f => exact ⟨rfl, fun _ => rfl, fun _ => rfl, fun _ => rfl⟩
theorem b2i_eq (a : Bool) : (if a = true then (1 : Int) else 0) = b2i a := by
  cases a <;> rfl
theorem eqd_ok {m : Mem} : ∀ (f : Nat) (x y : D) (d e : PyData), pd f m x = some d → pd f m y = some e → eqd f m x y = PyData.eqv d e := by
  intro f
  induction f with
  | zero =>
    intro x y d e h1 h2
    cases x <;> cases y <;> first
      | (cases h1; done)
      | (cases h2; done)
      | (cases h1; cases h2; unfold PyData.eqv; first | rfl | exact (sbeq _ _).symm | (rw [b2i_eq]; rfl) | (simp only [b2i_eq]; rfl))
  | succ f ih =>
    intro x y d e h1 h2
    cases x with
    | tup xs =>
      obtain ⟨g, ds, e0, q1, q2⟩ := pd_tup h1
      cases e0
      subst q2
      cases y with
      | tup ys =>
        obtain ⟨g, es, e0, q3, q4⟩ := pd_tup h2
        cases e0
        subst q4
        unfold PyData.eqv
        exact eqAll_ok ih xs ys ds es q1 q3
      | ref n =>
        obtain ⟨g, ys, es, e0, _, q3, q4⟩ := pd_ref h2
        subst q4
        unfold PyData.eqv
        rfl
      | _ => cases h2; unfold PyData.eqv; rfl
    | ref n =>
      obtain ⟨g, xs, ds, e0, q0, q1, q2⟩ := pd_ref h1
      cases e0
      subst q2
      cases y with
      | tup ys =>
        obtain ⟨g, es, e0, q3, q4⟩ := pd_tup h2
        subst q4
        unfold PyData.eqv
        rfl
      | ref k =>
        obtain ⟨g, ys, es, e0, q5, q3, q4⟩ := pd_ref h2
        cases e0
        subst q4
        unfold PyData.eqv
        show (match lstOf m n, lstOf m k with | some xs, some ys => eqAll (eqd f m) xs ys | _, _ => false) = _
        rw [q0, q5]
        exact eqAll_ok ih xs ys ds es q1 q3
      | _ => cases h2; unfold PyData.eqv; rfl
    | _ =>
      cases h1
      cases y with
      | tup ys =>
        obtain ⟨g, es, e0, q3, q4⟩ := pd_tup h2
        subst q4
        unfold PyData.eqv
        rfl
      | ref k =>
        obtain ⟨g, ys, es, e0, q5, q3, q4⟩ := pd_ref h2
        subst q4
        unfold PyData.eqv
        rfl
      | _ => cases h2; unfold PyData.eqv; first | rfl | exact (sbeq _ _).symm | (rw [b2i_eq]; rfl) | (simp only [b2i_eq]; rfl)
def eqG (neg : Bool) : D → D → Mem → R D := fun x y m => match sh 64 m x && sh 64 m y with
  | true => .ok (.bl (if neg then !eqd 64 m x y else eqd 64 m x y)) m
  | false => .bad
abbrev opEq := eqG false
abbrev opNe := eqG true
section
variable {S : Sg} {W : XK} {X : Cx} {k : Nat}
theorem om_eqG (neg : Bool) : OpM S W (fun x y H Q => ∃ d e, Dp S.K H x d ∧ Dp S.K H y e ∧ SeqAt.shaped d = true ∧ SeqAt.shaped e = true ∧ Q (.bl (if neg then !PyData.eqv d e else PyData.eqv d e)) H) (eqG neg) := by
  intro ρ H m x y x' y' Q rm rx ry q
  unfold eqG at q
  cases e3 : sh 64 m x && sh 64 m y with
  | false =>
    rw [e3] at q
    exact q.elim
  | true =>
    rw [e3] at q
    rw [Bool.and_eq_true] at e3
    obtain ⟨d, e1, c1, k1⟩ := sh_ok 64 x e3.1
    obtain ⟨e, e2, c2, k2⟩ := sh_ok 64 y e3.2
    rw [eqd_ok 64 x y d e e1 e2] at q
    refine ⟨d, e, pd_ok rm 64 x x' d e1 rx, pd_ok rm 64 y y' e e2 ry, ?_, ?_, Post.val q rm RD.bl⟩
    · exact Bool.and_eq_true_iff.mpr ⟨c1, decide_eq_true k1⟩
    · exact Bool.and_eq_true_iff.mpr ⟨c2, decide_eq_true k2⟩
theorem om_eq : OpM S W (rEqD S.K) opEq := om_eqG false
theorem om_ne : OpM S W (rNeD S.K) opNe := om_eqG true
theorem or_eq [c : Ok S W X k] : OpR X (compareOp .Eq) (rEqD S.K) := by
  have e := c.K
  rw [← e]
  exact op_eqD c.room.units
theorem or_ne [c : Ok S W X k] : OpR X (compareOp .NotEq) (rNeD S.K) := by
  have e := c.K
  rw [← e]
  exact op_neD c.room.units
end
/-! ### is None -/
def D.isNon : D → Bool
  | .non => true
  | _ => false
def eIsN (a : E) : E := fun e m => (a e m).bind fun x m1 => .ok (.bl x.isNon) m1
def eNotN (a : E) : E := fun e m => (a e m).bind fun x m1 => .ok (.bl (!x.isNon)) m1
section
variable {X : Cx} {S : Sg} {W : XK} {pos p2 : Pos} {a b c : Expr} {ca cb cc : E} {k j : Nat}
theorem isN_of {K : PySem.W.Frag} {ρ : Rho} {H : Hp} {x : D} {v : V} (r : RD K ρ H x v) : decide (v = .non) = x.isNon := by
  cases x with
  | non => rw [RD.of_non r]; rfl
  | bl b => rw [RD.of_bl r]; rfl
  | int i => rw [RD.of_int r]; rfl
  | str z => rw [RD.of_str r]; rfl
  | tup xs => obtain ⟨p, ys, e, _, _⟩ := RD.of_tup r; rw [e]; rfl
  | ref n => obtain ⟨p, e, _⟩ := RD.of_ref r; rw [e]; rfl
theorem isN_mono {σ : L2.St} {H : Hp} {Q : VK} (h : I S W (eIsN ca) σ H Q) : tIsN (I S W ca) σ H Q := by
  obtain ⟨ρ, e, m, sr, rm, h⟩ := h
  refine (I.step (c := ca) sr rm h).mono fun v H1 ⟨ρ1, x, m1, N, h1⟩ => ?_
  rw [isN_of N.rel]
  exact Post.val h1 N.rm RD.bl
theorem notN_mono {σ : L2.St} {H : Hp} {Q : VK} (h : I S W (eNotN ca) σ H Q) : tNotN (I S W ca) σ H Q := by
  obtain ⟨ρ, e, m, sr, rm, h⟩ := h
  refine (I.step (c := ca) sr rm h).mono fun v H1 ⟨ρ1, x, m1, N, h1⟩ => ?_
  rw [isN_of N.rel]
  exact Post.val h1 N.rm RD.bl
theorem me_isN (ha : PE X a (I S W ca)) : PE X (.Compare a [.Is] [.Constant .none j p2] pos) (I S W (eIsN ca)) := (pe_cmp (pc_isN ha)).mono fun _ _ _ => isN_mono
theorem me_notN (ha : PE X a (I S W ca)) : PE X (.Compare a [.IsNot] [.Constant .none j p2] pos) (I S W (eNotN ca)) := (pe_cmp (pc_notN ha)).mono fun _ _ _ => notN_mono
theorem mt_isN (ha : PE X a (I S W ca)) : PT X (.Compare a [.Is] [.Constant .none j p2] pos) (IT S W (tOf (eIsN ca))) := (pt_cmp (pc_isN ha)).mono fun _ _ _ h => isN_mono (I.test h)
theorem mt_notN (ha : PE X a (I S W ca)) : PT X (.Compare a [.IsNot] [.Constant .none j p2] pos) (IT S W (tOf (eNotN ca))) := (pt_cmp (pc_notN ha)).mono fun _ _ _ h => notN_mono (I.test h)
/-! ### two comparisons -/
theorem chain_mono {r r' : R2} {f g : D → D → Mem → R D} (hm : OpM S W r f) (hm' : OpM S W r' g) {σ : L2.St} {H : Hp} {Q : VK} (h : I S W (eChain f g ca cb cc) σ H Q) : tChain r r' (I S W ca) (I S W cb) (I S W cc) σ H Q := by
  obtain ⟨ρ, e, m, sr, rm, h⟩ := h
  refine (I.step (c := ca) sr rm h).mono fun v H1 ⟨ρ1, x, m1, N, h1⟩ => (I.step (c := cb) N.sr N.rm h1).mono fun u H2 ⟨ρ2, y, m2, N2, h2⟩ => ?_
  refine hm N2.rm (N.rel.ext N2.ext) N2.rel (Post.mono (Post.bind (Rel := RD S.K) N2.sr h2) ?_)
  intro z H3 ⟨ρ3, zd, m3, N3, h3⟩
  cases zd with
  | bl b =>
    refine ⟨b, RD.of_bl N3.rel, ?_⟩
    cases b with
    | true =>
      rw [if_pos rfl]
      have h3' : PostV S W ((cc e m3).bind fun w m5 => g y w m5) ρ3 H3 Q := h3
      exact (I.step (c := cc) N3.sr N3.rm h3').mono fun w H4 ⟨ρ4, wd, m4, N4, h4⟩ => hm' N4.rm ((N2.rel.ext N3.ext).ext N4.ext) N4.rel h4
    | false =>
      rw [if_neg Bool.false_ne_true]
      have h3' : PostV S W (.ok (.bl false) m3) ρ3 H3 Q := h3
      exact Post.val h3' N3.rm RD.bl
  | _ => exact h3.elim
theorem me_chain {op op' : CmpOp} {r r' : R2} {f g : D → D → Mem → R D} (ho : OpR X (compareOp op) r) (hm : OpM S W r f) (ho' : OpR X (compareOp op') r') (hm' : OpM S W r' g) (ha : PE X a (I S W ca)) (hb : PE X b (I S W cb)) (hc : PE X c (I S W cc))
    (hk : lastMarks [op, op'] [b, c] = false := by with_unfolding_all rfl) : PE X (.Compare a [op, op'] [b, c] pos) (I S W (eChain f g ca cb cc)) := (pe_chain ho ho' ha hb hc hk).mono fun _ _ _ => chain_mono hm hm'
theorem mt_chain {op op' : CmpOp} {r r' : R2} {f g : D → D → Mem → R D} (ho : OpR X (compareOp op) r) (hm : OpM S W r f) (ho' : OpR X (compareOp op') r') (hm' : OpM S W r' g) (ha : PE X a (I S W ca)) (hb : PE X b (I S W cb)) (hc : PE X c (I S W cc))
    (hk : lastMarks [op, op'] [b, c] = false := by with_unfolding_all rfl) : PT X (.Compare a [op, op'] [b, c] pos) (IT S W (tOf (eChain f g ca cb cc))) := (pt_chain ho ho' ha hb hc hk).mono fun _ _ _ h => chain_mono hm hm' (I.test h)
end
/-! ### numbers and texts in order -/
def ltG (neg swap : Bool) : D → D → Mem → R D := fun x y m => match x, y with
  | .int i, .int j => .ok (.bl (match neg, swap with | false, false => decide (i < j) | false, true => decide (j < i) | true, false => decide (j ≤ i) | true, true => decide (i ≤ j))) m
  | .str a, .str b => .ok (.bl (match neg, swap with | false, false => decide (a < b) | false, true => decide (b < a) | true, false => !decide (a < b) | true, true => !decide (b < a))) m
  | _, _ => .bad
abbrev opLt := ltG false false
abbrev opGt := ltG false true
abbrev opGe := ltG true false
abbrev opLe := ltG true true
section
variable {X : Cx} {S : Sg} {W : XK}
def rLtA : R2 := fun x y H Q => rI0 (fun i j => .bl (decide (i < j))) x y H Q ∨ (fun x y H Q => ∃ i j, x = .str i ∧ y = .str j ∧ Q (.bl (decide (i.cps.toList < j.cps.toList))) H : R2) x y H Q
def rGtA : R2 := fun x y H Q => rI0 (fun i j => .bl (decide (j < i))) x y H Q ∨ (fun x y H Q => ∃ i j, x = .str i ∧ y = .str j ∧ Q (.bl (decide (j.cps.toList < i.cps.toList))) H : R2) x y H Q
def rGeA : R2 := fun x y H Q => rI0 (fun i j => .bl (decide (j ≤ i))) x y H Q ∨ (fun x y H Q => ∃ i j, x = .str i ∧ y = .str j ∧ Q (.bl (!decide (i.cps.toList < j.cps.toList))) H : R2) x y H Q
def rLeA : R2 := fun x y H Q => rI0 (fun i j => .bl (decide (i ≤ j))) x y H Q ∨ (fun x y H Q => ∃ i j, x = .str i ∧ y = .str j ∧ Q (.bl (!decide (j.cps.toList < i.cps.toList))) H : R2) x y H Q
theorem or_lt : OpR X (compareOp .Lt) rLtA := opR_or op_lt op_lt_str
theorem or_gt : OpR X (compareOp .Gt) rGtA := opR_or op_gt op_gt_str
theorem or_ge : OpR X (compareOp .GtE) rGeA := opR_or op_ge op_ge_str
theorem or_le : OpR X (compareOp .LtE) rLeA := opR_or op_le op_le_str
theorem om_lt : OpM S W rLtA opLt := by
  intro ρ H m x y x' y' Q rm rx ry q
  cases x with
  | int i =>
    cases y with
    | int j => exact .inl ⟨i, j, RD.of_int rx, RD.of_int ry, Post.val q rm RD.bl⟩
    | _ => exact q.elim
  | str i =>
    cases y with
    | str j => exact .inr ⟨_, _, RD.of_str rx, RD.of_str ry, Post.val q rm RD.bl⟩
    | _ => exact q.elim
  | _ => exact q.elim
theorem om_gt : OpM S W rGtA opGt := by
  intro ρ H m x y x' y' Q rm rx ry q
  cases x with
  | int i =>
    cases y with
    | int j => exact .inl ⟨i, j, RD.of_int rx, RD.of_int ry, Post.val q rm RD.bl⟩
    | _ => exact q.elim
  | str i =>
    cases y with
    | str j => exact .inr ⟨_, _, RD.of_str rx, RD.of_str ry, Post.val q rm RD.bl⟩
    | _ => exact q.elim
  | _ => exact q.elim
theorem om_ge : OpM S W rGeA opGe := by
  intro ρ H m x y x' y' Q rm rx ry q
  cases x with
  | int i =>
    cases y with
    | int j => exact .inl ⟨i, j, RD.of_int rx, RD.of_int ry, Post.val q rm RD.bl⟩
    | _ => exact q.elim
  | str i =>
    cases y with
    | str j => exact .inr ⟨_, _, RD.of_str rx, RD.of_str ry, Post.val q rm RD.bl⟩
    | _ => exact q.elim
  | _ => exact q.elim
theorem om_le : OpM S W rLeA opLe := by
  intro ρ H m x y x' y' Q rm rx ry q
  cases x with
  | int i =>
    cases y with
    | int j => exact .inl ⟨i, j, RD.of_int rx, RD.of_int ry, Post.val q rm RD.bl⟩
    | _ => exact q.elim
  | str i =>
    cases y with
    | str j => exact .inr ⟨_, _, RD.of_str rx, RD.of_str ry, Post.val q rm RD.bl⟩
    | _ => exact q.elim
  | _ => exact q.elim
end
/-! ### in, not in: items that are flat, of a list or a tuple; one sign of a text -/
def D.flat : D → Bool
  | .non => true
  | .bl _ => true
  | .int _ => true
  | .str _ => true
  | _ => false
def D.eqF : D → D → Bool
  | .non, .non => true
  | .bl a, .bl b => a == b
  | .bl a, .int b => (if a then 1 else 0) == b
  | .int a, .bl b => a == (if b then 1 else 0)
  | .int a, .int b => a == b
  | .str a, .str b => a == b
  | _, _ => false
def inF (x : D) (xs : List D) : Option Bool := match x.flat && xs.all D.flat with
  | true => some (xs.any fun y => D.eqF y x)
  | false => none
def inG (neg : Bool) : D → D → Mem → R D := fun x y m => match y with
  | .tup xs => (match inF x xs with
    | some b => .ok (.bl (if neg then !b else b)) m
    | none => .bad)
  | .ref n => (match lstOf m n with
    | some xs => (match inF x xs with
      | some b => .ok (.bl (if neg then !b else b)) m
      | none => .bad)
    | none => .bad)
  | .str z => (match x with
    | .str [c] => .ok (.bl (if neg then !decide (c ∈ z) else decide (c ∈ z))) m
    | _ => .bad)
  | _ => .bad
abbrev opIn := inG false
abbrev opNotIn := inG true
section
variable {X : Cx} {S : Sg} {W : XK} {k : Nat}
theorem flat_of {K : PySem.W.Frag} {ρ : Rho} {H : Hp} {x : D} {v : V} (h : x.flat = true) (r : RD K ρ H x v) : flatV v = true ∧ x.v = some v := by
  cases x with
  | non => rw [RD.of_non r]; exact ⟨rfl, rfl⟩
  | bl b => rw [RD.of_bl r]; exact ⟨rfl, rfl⟩
  | int i => rw [RD.of_int r]; exact ⟨rfl, rfl⟩
  | str z => rw [RD.of_str r]; exact ⟨rfl, rfl⟩
  | _ => cases h
theorem str_beq (a b : List Nat) : ((⟨a.toArray⟩ : Str) == ⟨b.toArray⟩) = (a == b) := by
  rw [Bool.eq_iff_iff]
  simp
theorem eqF_of {x y : D} {v u : V} (hx : x.v = some v) (hy : y.v = some u) : eqV v u = D.eqF x y := by
  cases x with
  | non => cases hx; cases y <;> first | (cases hy; rfl) | cases hy
  | bl b => cases hx; cases y <;> first | (cases hy; rfl) | cases hy
  | int i => cases hx; cases y <;> first | (cases hy; rfl) | cases hy
  | str z =>
    cases hx
    cases y with
    | str w =>
      cases hy
      show ((⟨z.toArray⟩ : Str) == ⟨w.toArray⟩) = (z == w)
      exact str_beq z w
    | non => cases hy; rfl
    | bl b => cases hy; rfl
    | int i => cases hy; rfl
    | _ => cases hy
  | _ => cases hx
theorem inF_of {K : PySem.W.Frag} {ρ : Rho} {H : Hp} {x : D} {v : V} (hx : x.flat = true) (r : RD K ρ H x v) : ∀ {xs : List D} {vs : List V}, xs.all D.flat = true → RDs K ρ H xs vs → vs.all flatV = true ∧ inV v vs = xs.any fun y => D.eqF y x
  | [], vs, _, rs => by
    rw [rs.of_nil]
    exact ⟨rfl, rfl⟩
  | d :: ds, vs, h, rs => by
    obtain ⟨y, t, e, r1, r2⟩ := rs.of_cons
    rw [List.all_cons, Bool.and_eq_true] at h
    obtain ⟨i1, i2⟩ := inF_of hx r (xs := ds) h.2 r2
    obtain ⟨f1, f2⟩ := flat_of h.1 r1
    obtain ⟨g1, g2⟩ := flat_of hx r
    rw [e]
    refine ⟨by rw [List.all_cons, f1, i1]; rfl, ?_⟩
    have e1 : inV v (y :: t) = (eqV y v || inV v t) := rfl
    rw [e1, i2, List.any_cons, eqF_of f2 g2]
def rInA (K : PySem.W.Frag) (neg : Bool) : R2 := fun x y H Q => rIn K neg x y H Q ∨ (fun x y H Q => ∃ (c : Nat) (z : Str), x = .str ⟨#[c]⟩ ∧ y = .str z ∧ Q (.bl (if neg then !decide (c ∈ z.cps.toList) else decide (c ∈ z.cps.toList))) H : R2) x y H Q
theorem om_in (neg : Bool) : OpM S W (rInA S.K neg) (inG neg) := by
  intro ρ H m x y x' y' Q rm rx ry q
  cases y with
  | tup xs =>
    have q' : PostV S W (match inF x xs with | some b => .ok (.bl (if neg then !b else b)) m | none => .bad) ρ H Q := q
    obtain ⟨p, ys, e1, s1, r1⟩ := RD.of_tup ry
    cases e : inF x xs with
    | none =>
      rw [e] at q'
      exact q'.elim
    | some b =>
      rw [e] at q'
      unfold inF at e
      split at e
      · rename_i e2
        rw [Bool.and_eq_true] at e2
        obtain ⟨i1, i2⟩ := inF_of e2.1 rx e2.2 r1
        cases e
        refine .inl ⟨p, ys, e1, .inr s1, (flat_of e2.1 rx).1, i1, ?_⟩
        rw [i2]
        exact Post.val q' rm RD.bl
      · cases e
  | ref n =>
    have q' : PostV S W (match lstOf m n with | some xs => (match inF x xs with | some b => .ok (.bl (if neg then !b else b)) m | none => .bad) | none => .bad) ρ H Q := q
    cases e0 : lstOf m n with
    | none =>
      rw [e0] at q'
      exact q'.elim
    | some xs =>
      rw [e0] at q'
      have q' : PostV S W (match inF x xs with | some b => .ok (.bl (if neg then !b else b)) m | none => .bad) ρ H Q := q'
      obtain ⟨p, ys, h1, s1, r1⟩ := rm.lstOf e0
      obtain ⟨p2, f1, f2⟩ := RD.of_ref ry
      rw [h1] at f2
      cases f2
      cases e : inF x xs with
      | none =>
        rw [e] at q'
        exact q'.elim
      | some b =>
        rw [e] at q'
        unfold inF at e
        split at e
        · rename_i e2
          rw [Bool.and_eq_true] at e2
          obtain ⟨i1, i2⟩ := inF_of e2.1 rx e2.2 r1
          cases e
          refine .inl ⟨p, ys, f1, .inl s1, (flat_of e2.1 rx).1, i1, ?_⟩
          rw [i2]
          exact Post.val q' rm RD.bl
        · cases e
  | str z =>
    cases x with
    | str w =>
      match w, rx, q with
      | [c], rx, q => exact .inr ⟨c, _, RD.of_str rx, RD.of_str ry, Post.val q rm RD.bl⟩
      | [], rx, q => exact q.elim
      | _ :: _ :: _, rx, q => exact q.elim
    | _ => exact q.elim
  | _ => exact q.elim
theorem or_in [c : Ok S W X k] : OpR X (compareOp .In) (rInA S.K false) := by
  have e := c.K
  rw [← e]
  refine opR_or op_in_seq ?_
  intro pins s σ H x y v u Q I rx ry ⟨ch, z, h1, h2, h3⟩
  exact op_in_sign pins s σ H x y v u Q I rx ry ⟨ch, z, h1, h2, h3⟩
theorem or_notIn [c : Ok S W X k] : OpR X (compareOp .NotIn) (rInA S.K true) := by
  have e := c.K
  rw [← e]
  refine opR_or op_notIn_seq ?_
  intro pins s σ H x y v u Q I rx ry ⟨ch, z, h1, h2, h3⟩
  exact op_notIn_sign pins s σ H x y v u Q I rx ry ⟨ch, z, h1, h2, h3⟩
end
end Mi
end

section
set_option Elab.async false
set_option linter.all false
set_option maxRecDepth 100000
set_option autoImplicit false
set_option maxHeartbeats 1000000
namespace Mi
open PySem PySem.Spec PyProof.Rows L2

/-! ## Truth, tests -/
def truth (x : D) (m : Mem) : R Bool := match x with
  | .non => .ok false m
  | .bl b => .ok b m
  | .int i => .ok (i != 0) m
  | .str z => (match lineOk z.length with
    | true => .ok ((z.length : Int) != 0) m
    | false => .bad)
  | .tup xs => .ok (!xs.isEmpty) m
  | .ref n => (match m.get n with
    | some (.lst xs) => .ok (!xs.isEmpty) m
    | some (.frz xs) => .ok (!xs.isEmpty) m
    | some (.dic kvs) => .ok (!kvs.isEmpty) m
    | _ => .bad)
def tV (a : E) : Et := fun e m => (a e m).bind truth
def tNotM (a : Et) : Et := fun e m => (a e m).bind fun b m1 => .ok (!b) m1
def tAndM (a b : Et) : Et := fun e m => (a e m).bind fun x m1 => match x with
  | true => b e m1
  | false => .ok false m1
def tOrM (a b : Et) : Et := fun e m => (a e m).bind fun x m1 => match x with
  | true => .ok true m1
  | false => b e m1
def eAndM (a b : E) : E := fun e m => (a e m).bind fun x m1 => (truth x m1).bind fun k m2 => match k with
  | true => b e m2
  | false => .ok x m2
def eOrM (a b : E) : E := fun e m => (a e m).bind fun x m1 => (truth x m1).bind fun k m2 => match k with
  | true => .ok x m2
  | false => b e m2
def eNotM (a : E) : E := fun e m => (a e m).bind fun x m1 => (truth x m1).bind fun k m2 => .ok (.bl (!k)) m2
def eIf (t : Et) (a b : E) : E := fun e m => (t e m).bind fun k m1 => match k with
  | true => a e m1
  | false => b e m1
section
variable {X : Cx} {S : Sg} {W : XK} {pos : Pos} {a b c : Expr} {rest : List Expr} {ca cb : E} {ta tb : Et} {k : Nat}
theorem isEmpty_of {K : PySem.W.Frag} {ρ : Rho} {H : Hp} {xs : List D} {vs : List V} (r : RDs K ρ H xs vs) : xs.isEmpty = vs.isEmpty := by
  cases xs with
  | nil => rw [r.of_nil]; rfl
  | cons x t =>
    obtain ⟨y, u, e, _, _⟩ := r.of_cons
    rw [e]
    rfl
theorem truth_post {α β : Type} {Rel2 : Rho → Hp → α → β → Prop} {x : D} {m : Mem} {ρ : Rho} {H : Hp} {v : V} {Q : β → Hp → Prop} {f : Bool → Mem → R α} (h : Post S Rel2 W ((truth x m).bind f) ρ H Q) (rm : RM S ρ H m) (r : RD S.K ρ H x v) :
    ∃ k, TruV S.K v H k ∧ truth x m = .ok k m ∧ Post S Rel2 W (f k m) ρ H Q := by
  cases x with
  | non => exact ⟨false, by rw [RD.of_non r]; rfl, rfl, h⟩
  | bl b => exact ⟨b, by rw [RD.of_bl r]; rfl, rfl, h⟩
  | int i => exact ⟨i != 0, by rw [RD.of_int r]; rfl, rfl, h⟩
  | str z =>
    cases e : lineOk z.length with
    | false =>
      have h' : Post S Rel2 W (R.bind (match lineOk z.length with | true => .ok ((z.length : Int) != 0) m | false => .bad) f) ρ H Q := h
      rw [e] at h'
      exact h'.elim
    | true =>
      have h' : Post S Rel2 W (R.bind (match lineOk z.length with | true => .ok ((z.length : Int) != 0) m | false => .bad) f) ρ H Q := h
      rw [e] at h'
      refine ⟨(z.length : Int) != 0, ?_, ?_, h'⟩
      · rw [RD.of_str r]
        refine ⟨?_, ?_⟩
        · rw [str_len]
          exact lineOk_le e
        · rw [str_len]
      · show (match lineOk z.length with | true => R.ok ((z.length : Int) != 0) m | false => .bad) = _
        rw [e]
  | tup xs =>
    obtain ⟨p, ys, e1, s1, r1⟩ := RD.of_tup r
    exact ⟨!xs.isEmpty, by rw [e1]; exact .inr (.inl ⟨ys, s1, by rw [isEmpty_of r1]⟩), rfl, h⟩
  | ref n =>
    obtain ⟨p, e1, hp⟩ := RD.of_ref r
    cases q : m.get n with
    | none =>
      have h' : Post S Rel2 W (R.bind (match m.get n with | some (.lst xs) => .ok (!xs.isEmpty) m | some (.frz xs) => .ok (!xs.isEmpty) m | some (.dic kvs) => .ok (!kvs.isEmpty) m | _ => .bad) f) ρ H Q := h
      rw [q] at h'
      exact h'.elim
    | some o =>
      have h' : Post S Rel2 W (R.bind (match m.get n with | some (.lst xs) => .ok (!xs.isEmpty) m | some (.frz xs) => .ok (!xs.isEmpty) m | some (.dic kvs) => .ok (!kvs.isEmpty) m | _ => .bad) f) ρ H Q := h
      rw [q] at h'
      have tr : truth (.ref n) m = (match m.get n with | some (.lst xs) => .ok (!xs.isEmpty) m | some (.frz xs) => .ok (!xs.isEmpty) m | some (.dic kvs) => .ok (!kvs.isEmpty) m | _ => .bad) := rfl
      rw [q] at tr
      obtain ⟨p2, h1, h2⟩ := rm.ob n o q
      rw [hp] at h1
      cases h1
      cases o with
      | lst xs =>
        obtain ⟨ys, g1, g2⟩ := h2
        exact ⟨!xs.isEmpty, by rw [e1]; exact .inl ⟨ys, SqL.of g1, by rw [isEmpty_of g2]⟩, tr, h'⟩
      | frz xs =>
        obtain ⟨o, ys, g1, g2⟩ := h2
        exact ⟨!xs.isEmpty, by rw [e1]; exact .inl ⟨ys, .inl (.inr ⟨o, g1⟩), by rw [isEmpty_of g2]⟩, tr, h'⟩
      | dic kvs =>
        obtain ⟨ks, vs, g1, g2, g3, g4⟩ := h2
        have l1 := g4.length
        rw [List.length_map] at l1
        have ee : (!kvs.isEmpty) = !(ks.zip vs).isEmpty := by
          cases kvs with
          | nil =>
            have : vs = [] := List.eq_nil_of_length_eq_zero l1.symm
            rw [this, List.zip_nil_right]
            rfl
          | cons kv t =>
            cases vs with
            | nil => cases l1
            | cons v vs =>
              cases ks with
              | nil => cases g2
              | cons k0 ks => rfl
        exact ⟨!kvs.isEmpty, by rw [e1]; exact .inr (.inr ⟨_, g1, ee⟩), tr, h'⟩
      | ins c fs => exact h'.elim
      | exc c fs => exact h'.elim
theorem mt_val [c : Ok S W X k] (ha : PE X a (I S W ca)) (he : ∀ whole, isTrue a X.env whole = (do let v ← whole; standAt a.pos; holding [v] (truthy v)) := by intro _; rfl) : PT X a (IT S W (tV ca)) := by
  have eK := c.K
  refine (pt_truth ha he).mono fun σ H Q ⟨ρ, e, m, sr, rm, h⟩ => ?_
  rw [eK]
  refine (I.step (c := ca) sr rm h).mono fun v H1 ⟨ρ1, x, m1, N, h1⟩ => ?_
  have h1' : PostT S W ((truth x m1).bind fun b m2 => .ok b m2) ρ1 H1 Q := by
    revert h1
    cases truth x m1 <;> exact fun z => z
  obtain ⟨b, h2, h3, h4⟩ := truth_post h1' N.rm N.rel
  exact ⟨b, h2, Post.here h4 N.rm rfl⟩
theorem mt_not (ha : PT X a (IT S W ta)) : PT X (.UnaryOp .Not a pos) (IT S W (tNotM ta)) := (pt_not ha).mono fun σ H Q ⟨ρ, e, m, sr, rm, h⟩ =>
  (IT.step (c := ta) sr rm h).mono fun v H1 ⟨ρ1, x, m1, N, h1⟩ => by
    rw [N.rel]
    exact Post.here h1 N.rm rfl
theorem mw_one_and (ha : PT X a (IT S W ta)) : PW X (.BoolOp .And [a] pos) (IT S W ta) := pw_and1 ha
theorem mw_one_or (ha : PT X a (IT S W ta)) : PW X (.BoolOp .Or [a] pos) (IT S W ta) := pw_or1 ha
theorem mw_and (ha : PT X a (IT S W ta)) (hb : PW X (.BoolOp .And (b :: rest) pos) (IT S W tb)) : PW X (.BoolOp .And (a :: b :: rest) pos) (IT S W (tAndM ta tb)) := (pw_and ha hb).mono fun σ H Q ⟨ρ, e, m, sr, rm, h⟩ =>
  (IT.step (c := ta) sr rm h).mono fun v H1 ⟨ρ1, x, m1, N, h1⟩ => by
    rw [N.rel]
    cases x with
    | true => exact iteT ⟨ρ1, e, m1, N.sr, N.rm, h1⟩
    | false => exact iteF (Post.here h1 N.rm rfl)
theorem mw_or (ha : PT X a (IT S W ta)) (hb : PW X (.BoolOp .Or (b :: rest) pos) (IT S W tb)) : PW X (.BoolOp .Or (a :: b :: rest) pos) (IT S W (tOrM ta tb)) := (pw_or ha hb).mono fun σ H Q ⟨ρ, e, m, sr, rm, h⟩ =>
  (IT.step (c := ta) sr rm h).mono fun v H1 ⟨ρ1, x, m1, N, h1⟩ => by
    rw [N.rel]
    cases x with
    | true => exact iteT (Post.here h1 N.rm rfl)
    | false => exact iteF ⟨ρ1, e, m1, N.sr, N.rm, h1⟩
theorem mt_bool {op : BoolOp} {es : List Expr} (h : PW X (.BoolOp op es pos) (IT S W ta)) : PT X (.BoolOp op es pos) (IT S W ta) := h.pt
theorem me_one {op : BoolOp} (h : PE X a (I S W ca)) : PE X (.BoolOp op [a] pos) (I S W ca) := pe_one h
theorem me_and [c : Ok S W X k] (ha : PE X a (I S W ca)) (hb : PE X (.BoolOp .And (b :: rest) pos) (I S W cb)) : PE X (.BoolOp .And (a :: b :: rest) pos) (I S W (eAndM ca cb)) := by
  have eK := c.K
  refine (pe_andT ha hb).mono fun σ H Q ⟨ρ, e, m, sr, rm, h⟩ => ?_
  rw [eK]
  refine (I.step (c := ca) sr rm h).mono fun v H1 ⟨ρ1, x, m1, N, h1⟩ => ?_
  obtain ⟨b, h2, h3, h4⟩ := truth_post h1 N.rm N.rel
  refine ⟨b, h2, ?_⟩
  cases b with
  | true => exact iteT ⟨ρ1, e, m1, N.sr, N.rm, h4⟩
  | false => exact iteF (Post.val h4 N.rm N.rel)
theorem me_or [c : Ok S W X k] (ha : PE X a (I S W ca)) (hb : PE X (.BoolOp .Or (b :: rest) pos) (I S W cb)) : PE X (.BoolOp .Or (a :: b :: rest) pos) (I S W (eOrM ca cb)) := by
  have eK := c.K
  refine (pe_orT ha hb).mono fun σ H Q ⟨ρ, e, m, sr, rm, h⟩ => ?_
  rw [eK]
  refine (I.step (c := ca) sr rm h).mono fun v H1 ⟨ρ1, x, m1, N, h1⟩ => ?_
  obtain ⟨b, h2, h3, h4⟩ := truth_post h1 N.rm N.rel
  refine ⟨b, h2, ?_⟩
  cases b with
  | true => exact iteT (Post.val h4 N.rm N.rel)
  | false => exact iteF ⟨ρ1, e, m1, N.sr, N.rm, h4⟩
theorem me_not [c : Ok S W X k] (ha : PE X a (I S W ca)) : PE X (.UnaryOp .Not a pos) (I S W (eNotM ca)) := by
  have eK := c.K
  refine (pe_notT ha).mono fun σ H Q ⟨ρ, e, m, sr, rm, h⟩ => ?_
  rw [eK]
  refine (I.step (c := ca) sr rm h).mono fun v H1 ⟨ρ1, x, m1, N, h1⟩ => ?_
  obtain ⟨b, h2, h3, h4⟩ := truth_post h1 N.rm N.rel
  exact ⟨b, h2, Post.val h4 N.rm RD.bl⟩
theorem me_ifexp (ht : PT X c (IT S W ta)) (ha : PE X a (I S W ca)) (hb : PE X b (I S W cb)) : PE X (.IfExp c a b pos) (I S W (eIf ta ca cb)) := (pe_ifExp ht ha hb).mono fun σ H Q ⟨ρ, e, m, sr, rm, h⟩ =>
  (IT.step (c := ta) sr rm h).mono fun v H1 ⟨ρ1, x, m1, N, h1⟩ => by
    rw [N.rel]
    cases x with
    | true => exact iteT ⟨ρ1, e, m1, N.sr, N.rm, h1⟩
    | false => exact iteF ⟨ρ1, e, m1, N.sr, N.rm, h1⟩
end

/-! ## Subscripts -/
def ixD (xs : List D) (i : Int) : Option D := atI xs i
def opIx : D → D → Mem → R D := fun x y m => match y with
  | .int i => (match x with
    | .tup xs => (match ixD xs i with
      | some d => .ok d m
      | none => .bad)
    | .ref n => (match lstOf m n with
      | some xs => (match ixD xs i with
        | some d => .ok d m
        | none => .bad)
      | none => .bad)
    | .str z => (match lineOk z.length with
      | true => (match atI z i with
        | some c => .ok (.str [c]) m
        | none => .bad)
      | false => .bad)
    | _ => .bad)
  | _ => .bad
section
variable {X : Cx} {S : Sg} {W : XK} {pos p2 : Pos} {a b c : Expr} {ca cb cc : E} {k j : Nat}
theorem atI_of {K : PySem.W.Frag} {ρ : Rho} {H : Hp} {xs : List D} {vs : List V} (r : RDs K ρ H xs vs) {i : Int} {d : D} (h : ixD xs i = some d) : ∃ v, atI vs i = some v ∧ RD K ρ H d v := by
  unfold ixD atI at h
  unfold atI
  rw [← r.length]
  cases q : ixN xs.length i with
  | none =>
    rw [q] at h
    cases h
  | some j =>
    rw [q] at h
    obtain ⟨v, h1, h2⟩ := r.get (i := j) h
    exact ⟨v, h1, h2⟩
theorem om_ix : OpM S W (rIx S.K) opIx := by
  intro ρ H m x y x' y' Q rm rx ry q
  cases y with
  | int i =>
    cases x with
    | tup xs =>
      have q' : PostV S W (match ixD xs i with | some d => .ok d m | none => .bad) ρ H Q := q
      obtain ⟨p, ys, e1, s1, r1⟩ := RD.of_tup rx
      cases e : ixD xs i with
      | none =>
        rw [e] at q'
        exact q'.elim
      | some d =>
        rw [e] at q'
        obtain ⟨v, h1, h2⟩ := atI_of r1 e
        exact .inr (.inl ⟨p, ys, i, v, e1, RD.of_int ry, s1, h1, Post.val q' rm h2⟩)
    | ref n =>
      have q' : PostV S W (match lstOf m n with | some xs => (match ixD xs i with | some d => .ok d m | none => .bad) | none => .bad) ρ H Q := q
      cases e0 : lstOf m n with
      | none =>
        rw [e0] at q'
        exact q'.elim
      | some xs =>
        rw [e0] at q'
        have q' : PostV S W (match ixD xs i with | some d => .ok d m | none => .bad) ρ H Q := q'
        obtain ⟨p, ys, g1, s1, r1⟩ := rm.lstOf e0
        obtain ⟨p2, f1, f2⟩ := RD.of_ref rx
        rw [g1] at f2
        cases f2
        cases e : ixD xs i with
        | none =>
          rw [e] at q'
          exact q'.elim
        | some d =>
          rw [e] at q'
          obtain ⟨v, h1, h2⟩ := atI_of r1 e
          exact .inl ⟨p, ys, i, v, f1, RD.of_int ry, s1, h1, Post.val q' rm h2⟩
    | str z =>
      have q' : PostV S W (match lineOk z.length with | true => (match atI z i with | some c => .ok (.str [c]) m | none => .bad) | false => .bad) ρ H Q := q
      cases e0 : lineOk z.length with
      | false =>
        rw [e0] at q'
        exact q'.elim
      | true =>
        rw [e0] at q'
        have q' : PostV S W (match atI z i with | some c => .ok (.str [c]) m | none => .bad) ρ H Q := q'
        cases e : atI z i with
        | none =>
          rw [e] at q'
          exact q'.elim
        | some c =>
          rw [e] at q'
          exact .inr (.inr ⟨_, i, c, RD.of_str rx, RD.of_int ry, by rw [str_len]; exact lineOk_le e0, e, Post.val q' rm RD.str⟩)
    | _ => exact q.elim
  | _ => exact q.elim
theorem me_ix [c : Ok S W X k] (ha : PE X a (I S W ca)) (hb : PE X b (I S W cb)) (hs : PlainIx b := by exact fun _ _ => rfl) : PE X (.Subscript a b pos) (I S W (eBin opIx ca cb)) := by
  have eK := c.K
  have h := pe_ix (X := X) (pos := pos) ix_seq ha hb hs
  rw [eK] at h
  exact h.mono fun _ _ _ => bin_mono om_ix
end

/-! ## Slices -/
def cutD {α : Type} (xs : List α) (lo hi : Option Int) : List α := (xs.drop (HT.sIx xs.length 0 lo)).take (HT.sIx xs.length xs.length hi - HT.sIx xs.length 0 lo)
abbrev Eo := Lo → Mem → R (Option Int)
def oNone : Eo := fun _ m => .ok none m
def oSome (a : E) : Eo := fun e m => (a e m).bind fun x m1 => match x with
  | .int i => .ok (some i) m1
  | _ => .bad
def sliceD (x : D) (lo hi : Option Int) (m : Mem) : R D := match x with
  | .tup xs => .ok (.tup (cutD xs lo hi)) m
  | .ref n => (match lstOf m n with
    | some xs => .ok (.ref m.next) (m.new (.lst (cutD xs lo hi)))
    | none => .bad)
  | .str z => (match lineOk z.length with
    | true => .ok (.str (cutD z lo hi)) m
    | false => .bad)
  | _ => .bad
def eSl (a : E) (lo hi : Eo) : E := fun e m => (a e m).bind fun x m1 => (lo e m1).bind fun l m2 => (hi e m2).bind fun h m3 => sliceD x l h m3
def IO (S : Sg) (W : XK) (c : Eo) : TO := fun σ H Q => ∃ ρ e m, SR S ρ H σ e ∧ RM S ρ H m ∧ Post S (fun _ _ a b => b = a) W (c e m) ρ H Q
theorem IO.step {S : Sg} {W : XK} {σ : L2.St} {H : Hp} {ρ : Rho} {e : Lo} {m : Mem} {c : Eo} {δ γ : Type} {Rel2 : Rho → Hp → γ → δ → Prop} {f : Option Int → Mem → R γ} {Q : δ → Hp → Prop} (sr : SR S ρ H σ e) (rm : RM S ρ H m) (h : Post S Rel2 W ((c e m).bind f) ρ H Q) :
    IO S W c σ H fun v H' => ∃ ρ' a m', Now S (fun _ _ a b => b = a) ρ H σ e a m' v ρ' H' ∧ Post S Rel2 W (f a m') ρ' H' Q := ⟨ρ, e, m, sr, rm, Post.bind sr h⟩
theorem IO.mono {S : Sg} {W : XK} {c : Eo} {σ : L2.St} {H : Hp} {Q Q' : Option Int → Hp → Prop} (h : IO S W c σ H Q) (k : ∀ v H', Q v H' → Q' v H') : IO S W c σ H Q' :=
  let ⟨ρ, e, m, sr, rm, q⟩ := h; ⟨ρ, e, m, sr, rm, q.mono k⟩
theorem PO.mono {X : Cx} {e : Option Expr} {t t' : TO} (h : PO X e t) (k : ∀ σ H Q, t' σ H Q → t σ H Q) : PO X e t' := ⟨fun pins s σ H Q I q => h.run pins s σ H Q I (k _ _ _ q)⟩
section
variable {X : Cx} {S : Sg} {W : XK} {pos p2 : Pos} {a b c : Expr} {lo hi : Option Expr} {ca cb cc : E} {cl ch : Eo} {k j : Nat}
theorem mo_none : PO X none (IO S W oNone) := PO.mono po_none fun σ H Q ⟨ρ, e, m, sr, rm, h⟩ => Post.here h rm rfl
theorem mo_some (ha : PE X a (I S W ca)) : PO X (some a) (IO S W (oSome ca)) := PO.mono (po_some ha) fun σ H Q ⟨ρ, e, m, sr, rm, h⟩ =>
  (I.step (c := ca) sr rm h).mono fun v H1 ⟨ρ1, x, m1, N, h1⟩ => by
    cases x with
    | int i => exact ⟨i, RD.of_int N.rel, Post.here h1 N.rm rfl⟩
    | _ => exact h1.elim
theorem cutD_of {K : PySem.W.Frag} {ρ : Rho} {H : Hp} {xs : List D} {vs : List V} (r : RDs K ρ H xs vs) (lo hi : Option Int) : RDs K ρ H (cutD xs lo hi) (cutV vs lo hi) := by
  unfold cutD cutV
  rw [r.length]
  exact (r.drop _).take _
def rSlM (K : PySem.W.Frag) : V → Option Int → Option Int → Hp → VK → Prop := fun x lo hi H Q => rSlL K x lo hi H Q ∨ rSlA K x lo hi H Q ∨ rSlS x lo hi H Q
theorem slM {x : D} {v : V} {lo hi : Option Int} {m : Mem} {ρ : Rho} {H : Hp} {Q : VK} (q : PostV S W (sliceD x lo hi m) ρ H Q) (rm : RM S ρ H m) (rx : RD S.K ρ H x v) : rSlM S.K v lo hi H Q := by
  cases x with
  | tup xs =>
    obtain ⟨p, ys, e1, s1, r1⟩ := RD.of_tup rx
    have rc := cutD_of r1 lo hi
    refine .inr (.inl ⟨p, ys, e1, s1, fun z => ?_, fun _ => Post.tup q rm rc⟩)
    refine Post.val q rm (RD.tup' s1 ?_)
    have e : cutV ys lo hi = ys := by
      unfold cutV
      rw [z.1, z.2, List.drop_zero, Nat.sub_zero, List.take_length]
    rw [e] at rc
    exact rc
  | ref n =>
    have q' : PostV S W (match lstOf m n with | some xs => .ok (.ref m.next) (m.new (.lst (cutD xs lo hi))) | none => .bad) ρ H Q := q
    cases e0 : lstOf m n with
    | none =>
      rw [e0] at q'
      exact q'.elim
    | some xs =>
      rw [e0] at q'
      obtain ⟨p, ys, g1, s1, r1⟩ := rm.lstOf e0
      obtain ⟨p2, f1, f2⟩ := RD.of_ref rx
      rw [g1] at f2
      cases f2
      exact .inl ⟨p, ys, f1, s1, Post.lst q' rm (cutD_of r1 lo hi)⟩
  | str z =>
    have q' : PostV S W (match lineOk z.length with | true => .ok (.str (cutD z lo hi)) m | false => .bad) ρ H Q := q
    cases e0 : lineOk z.length with
    | false =>
      rw [e0] at q'
      exact q'.elim
    | true =>
      rw [e0] at q'
      refine .inr (.inr ⟨_, RD.of_str rx, by rw [str_len]; exact lineOk_le e0, ?_⟩)
      have e : cutS ⟨z.toArray⟩ lo hi = ⟨(cutD z lo hi).toArray⟩ := by
        unfold cutS cutD
        rw [str_len]
      rw [e]
      exact Post.val q' rm RD.str
  | _ => exact q.elim
theorem me_slice [c : Ok S W X k] (ha : PE X a (I S W ca)) (hl : PO X lo (IO S W cl)) (hh : PO X hi (IO S W ch)) : PE X (.Subscript a (.Slice lo hi none p2) pos) (I S W (eSl ca cl ch)) := by
  have eK := c.K
  have h := pe_slice (X := X) (pos := pos) (p2 := p2) (SlR.or sl_list (SlR.or sl_tupA sl_str)) ha hl hh
  rw [eK] at h
  refine h.mono fun σ H Q ⟨ρ, e, m, sr, rm, h⟩ => ?_
  exact (I.step (c := ca) sr rm h).mono fun v H1 ⟨ρ1, x, m1, N, h1⟩ => (IO.step (c := cl) N.sr N.rm h1).mono fun l H2 ⟨ρ2, ld, m2, N2, h2⟩ => (IO.step (c := ch) N2.sr N2.rm h2).mono fun u H3 ⟨ρ3, ud, m3, N3, h3⟩ => by
    have e2 : l = ld := N2.rel
    have e3 : u = ud := N3.rel
    rw [e2, e3]
    exact slM h3 N3.rm ((N.rel.ext N2.ext).ext N3.ext)
end
end Mi
end

section
set_option Elab.async false
set_option linter.all false
set_option maxRecDepth 100000
set_option autoImplicit false
set_option maxHeartbeats 1000000
namespace Mi
open PySem PySem.Spec PyProof.Rows L2

/-! ## Built-ins, called -/
def eCall (f : List D → Mem → R D) (c : Es) : E := fun e m => (c e m).bind f
def CM (S : Sg) (W : XK) (r : List V → Hp → VK → Prop) (f : List D → Mem → R D) : Prop := ∀ {ρ : Rho} {H : Hp} {m : Mem} {ds : List D} {vs : List V} {Q : VK}, RM S ρ H m → RDs S.K ρ H ds vs → PostV S W (f ds m) ρ H Q → r vs H Q
section
variable {X : Cx} {S : Sg} {W : XK} {x : Str} {p pos : Pos} {e : Expr} {es : List Expr} {cs : Es} {id T : String} {r : List V → Hp → VK → Prop} {f : List D → Mem → R D} {k : Nat}
theorem call_mono (hf : CM S W r f) {σ : L2.St} {H : Hp} {Q : VK} (h : I S W (eCall f cs) σ H Q) : tCB r (IA S W cs) σ H Q := by
  obtain ⟨ρ, e, m, sr, rm, h⟩ := h
  exact (IA.step (c := cs) sr rm h).mono fun vs H1 ⟨ρ1, ds, m1, N, h1⟩ => hf N.rm N.rel h1
theorem me_callB (hc : CallR X (.builtin id) r) (hf : CM S W r f) (hg : Gl X x) (hm : X.mg x = none) (hv : bootBuiltins x = some (.builtin id)) (ha : PA X (e :: es) (IA S W cs)) (hn : x ≠ "__name__" := by decide) (hdb : (x == ("__debug__" : Str)) = false := by decide)
    (he : starEach (e :: es) X.env = (false, eval e X.env) :: starEach es X.env := by rfl) (hpl : (backTo pos (starEach es X.env)).any (·.1) = false := by rfl) : PE X (.Call (.Name x p) (e :: es) [] pos) (I S W (eCall f cs)) :=
  (pe_callB hc hg hm hv ha hn hdb he hpl).mono fun _ _ _ => call_mono hf
theorem me_callTy (hc : CallR X (.type T) r) (hf : CM S W r f) (hg : Gl X x) (hm : X.mg x = none) (hv : bootBuiltins x = some (.type T)) (ha : PA X (e :: es) (IA S W cs)) (hn : x ≠ "__name__" := by decide) (hdb : (x == ("__debug__" : Str)) = false := by decide)
    (he : starEach (e :: es) X.env = (false, eval e X.env) :: starEach es X.env := by rfl) (hpl : (backTo pos (starEach es X.env)).any (·.1) = false := by rfl) : PE X (.Call (.Name x p) (e :: es) [] pos) (I S W (eCall f cs)) :=
  (pe_callTy hc hg hm hv ha hn hdb he hpl).mono fun _ _ _ => call_mono hf
end
theorem callR_or {X : Cx} {f : Value} {r r' : List V → Hp → VK → Prop} (h : CallR X f r) (h' : CallR X f r') : CallR X f (fun xs H Q => r xs H Q ∨ r' xs H Q) := CallR.or h h'
/-! ### len -/
def fLen : List D → Mem → R D := fun ds m => match ds with
  | [.tup xs] => .ok (.int xs.length) m
  | [.str z] => (match lineOk z.length with
    | true => .ok (.int z.length) m
    | false => .bad)
  | [.ref n] => (match m.get n with
    | some (.lst xs) => .ok (.int xs.length) m
    | some (.frz xs) => .ok (.int xs.length) m
    | some (.dic kvs) => .ok (.int kvs.length) m
    | _ => .bad)
  | _ => .bad
def rLenA (K : PySem.W.Frag) : List V → Hp → VK → Prop := fun xs H Q => (∃ p ys, xs = [.ref p] ∧ (SqL K H p ys ∨ SqT K H p ys) ∧ Q (.int ys.length) H) ∨ (∃ z, xs = [.str z] ∧ z.length ≤ sizeLine ∧ Q (.int z.length) H) ∨ (∃ a kvs, xs = [V.ref a] ∧ H a = some (.dK kvs) ∧ Q (.int kvs.length) H)
section
variable {X : Cx} {S : Sg} {W : XK} {k : Nat}
theorem cr_len [c : Ok S W X k] : CallR X (.builtin "len") (rLenA S.K) := by
  have e := c.K
  rw [← e]
  exact callR_or call_len_seq (callR_or call_len_str call_lenD)
theorem cm_len : CM S W (rLenA S.K) fLen := by
  intro ρ H m ds vs Q rm rs q
  match ds, rs, q with
  | [.tup xs], rs, q =>
    obtain ⟨v, t, e, r1, r2⟩ := rs.of_cons
    obtain ⟨a, ys, e1, s1, r3⟩ := RD.of_tup r1
    refine .inl ⟨a, ys, by rw [e, e1, r2.of_nil], .inr s1, ?_⟩
    rw [← r3.length]
    exact Post.val q rm RD.int
  | [.str z], rs, q =>
    obtain ⟨v, t, e, r1, r2⟩ := rs.of_cons
    have q' : PostV S W (match lineOk z.length with | true => .ok (.int z.length) m | false => .bad) ρ H Q := q
    cases e0 : lineOk z.length with
    | false =>
      rw [e0] at q'
      exact q'.elim
    | true =>
      rw [e0] at q'
      refine .inr (.inl ⟨_, by rw [e, RD.of_str r1, r2.of_nil], by rw [str_len]; exact lineOk_le e0, ?_⟩)
      rw [str_len]
      exact Post.val q' rm RD.int
  | [.ref n], rs, q =>
    obtain ⟨v, t, e, r1, r2⟩ := rs.of_cons
    obtain ⟨a, e1, hr⟩ := RD.of_ref r1
    have q' : PostV S W (match m.get n with | some (.lst xs) => .ok (.int xs.length) m | some (.frz xs) => .ok (.int xs.length) m | some (.dic kvs) => .ok (.int kvs.length) m | _ => .bad) ρ H Q := q
    cases e0 : m.get n with
    | none =>
      rw [e0] at q'
      exact q'.elim
    | some o =>
      rw [e0] at q'
      obtain ⟨a2, h1, h2⟩ := rm.ob n o e0
      rw [hr] at h1
      cases h1
      cases o with
      | lst xs =>
        obtain ⟨ys, g1, g2⟩ := h2
        refine .inl ⟨a, ys, by rw [e, e1, r2.of_nil], .inl (SqL.of g1), ?_⟩
        rw [← g2.length]
        exact Post.val q' rm RD.int
      | frz xs =>
        obtain ⟨o, ys, g1, g2⟩ := h2
        refine .inl ⟨a, ys, by rw [e, e1, r2.of_nil], .inl (.inl (.inr ⟨o, g1⟩)), ?_⟩
        rw [← g2.length]
        exact Post.val q' rm RD.int
      | dic kvs =>
        obtain ⟨ks, vs', g1, g2, g3, g4⟩ := h2
        refine .inr (.inr ⟨a, _, by rw [e, e1, r2.of_nil], g1, ?_⟩)
        have l1 := g4.length
        rw [List.length_map] at l1
        rw [List.length_zip, g2, Nat.min_self, ← l1]
        exact Post.val q' rm RD.int
      | ins c fs => exact q'.elim
      | exc c fs => exact q'.elim
  | [], rs, q => exact q.elim
  | [.non], rs, q => exact q.elim
  | [.bl _], rs, q => exact q.elim
  | [.int _], rs, q => exact q.elim
  | a :: _ :: _, rs, q => cases a <;> exact q.elim
end
/-! ### int, abs, list, tuple, all, any -/
def fInt : List D → Mem → R D := fun ds m => match ds with
  | [.int i] => .ok (.int i) m
  | [.bl b] => .ok (.int (if b then 1 else 0)) m
  | _ => .bad
def fAbs : List D → Mem → R D := fun ds m => match ds with
  | [.int i] => .ok (.int (if i < 0 then -i else i)) m
  | _ => .bad
def fList : List D → Mem → R D := fun ds m => match ds with
  | [.tup xs] => .ok (.ref m.next) (m.new (.lst xs))
  | [.ref n] => (match lstOf m n with
    | some xs => .ok (.ref m.next) (m.new (.lst xs))
    | none => .bad)
  | _ => .bad
def fTuple : List D → Mem → R D := fun ds m => match ds with
  | [.tup xs] => .ok (.tup xs) m
  | [.ref n] => (match lstOf m n with
    | some xs => .ok (.tup xs) m
    | none => .bad)
  | _ => .bad
def bools : List D → Option (List Bool)
  | [] => some []
  | .bl b :: r => (bools r).map fun l => b :: l
  | _ :: _ => none
def fAll (any : Bool) : List D → Mem → R D := fun ds m => match ds with
  | [.ref n] => (match lstOf m n with
    | some xs => (match bools xs with
      | some bs => .ok (.bl (if any then bs.any id else bs.all id)) m
      | none => .bad)
    | none => .bad)
  | _ => .bad
section
variable {X : Cx} {S : Sg} {W : XK} {k : Nat}
def rInt : List V → Hp → VK → Prop := fun xs H Q => (∃ i, xs = [.int i] ∧ Q (.int i) H) ∨ ∃ k, xs = [.bl k] ∧ Q (.int (if k then 1 else 0)) H
theorem cr_int : CallR X (.type "int") rInt := call_int1
theorem cm_int : CM S W rInt fInt := by
  intro ρ H m ds vs Q rm rs q
  match ds, rs, q with
  | [.int i], rs, q =>
    obtain ⟨v, t, e, r1, r2⟩ := rs.of_cons
    exact .inl ⟨i, by rw [e, RD.of_int r1, r2.of_nil], Post.val q rm RD.int⟩
  | [.bl b], rs, q =>
    obtain ⟨v, t, e, r1, r2⟩ := rs.of_cons
    exact .inr ⟨b, by rw [e, RD.of_bl r1, r2.of_nil], Post.val q rm RD.int⟩
  | [], rs, q => exact q.elim
  | [.non], rs, q => exact q.elim
  | [.str _], rs, q => exact q.elim
  | [.tup _], rs, q => exact q.elim
  | [.ref _], rs, q => exact q.elim
  | a :: _ :: _, rs, q => cases a <;> exact q.elim
def rAbs : List V → Hp → VK → Prop := fun xs H Q => ∃ i, xs = [.int i] ∧ Q (.int (if i < 0 then -i else i)) H
theorem cr_abs : CallR X (.builtin "abs") rAbs := call_abs
theorem cm_abs : CM S W rAbs fAbs := by
  intro ρ H m ds vs Q rm rs q
  match ds, rs, q with
  | [.int i], rs, q =>
    obtain ⟨v, t, e, r1, r2⟩ := rs.of_cons
    exact ⟨i, by rw [e, RD.of_int r1, r2.of_nil], Post.val q rm RD.int⟩
  | [], rs, q => exact q.elim
  | [.non], rs, q => exact q.elim
  | [.bl _], rs, q => exact q.elim
  | [.str _], rs, q => exact q.elim
  | [.tup _], rs, q => exact q.elim
  | [.ref _], rs, q => exact q.elim
  | a :: _ :: _, rs, q => cases a <;> exact q.elim
def rListA (K : PySem.W.Frag) : List V → Hp → VK → Prop := fun xs H Q => ∃ p ys, xs = [.ref p] ∧ (SqL K H p ys ∨ SqT K H p ys) ∧ ∀ l, H l = none → Q (.ref l) (upd H l (.lst ys))
theorem cr_list [c : Ok S W X k] : CallR X (.type "list") (rListA S.K) := by
  have e := c.K
  rw [← e]
  exact call_list_of
theorem cm_list : CM S W (rListA S.K) fList := by
  intro ρ H m ds vs Q rm rs q
  match ds, rs, q with
  | [.tup xs], rs, q =>
    obtain ⟨v, t, e, r1, r2⟩ := rs.of_cons
    obtain ⟨a, ys, e1, s1, r3⟩ := RD.of_tup r1
    exact ⟨a, ys, by rw [e, e1, r2.of_nil], .inr s1, Post.lst q rm r3⟩
  | [.ref n], rs, q =>
    obtain ⟨v, t, e, r1, r2⟩ := rs.of_cons
    obtain ⟨a, e1, hr⟩ := RD.of_ref r1
    have q' : PostV S W (match lstOf m n with | some xs => .ok (.ref m.next) (m.new (.lst xs)) | none => .bad) ρ H Q := q
    cases e0 : lstOf m n with
    | none =>
      rw [e0] at q'
      exact q'.elim
    | some xs =>
      rw [e0] at q'
      obtain ⟨a2, ys, h1, h2, h3⟩ := rm.lstOf e0
      rw [hr] at h1
      cases h1
      exact ⟨a, ys, by rw [e, e1, r2.of_nil], .inl h2, Post.lst q' rm h3⟩
  | [], rs, q => exact q.elim
  | [.non], rs, q => exact q.elim
  | [.bl _], rs, q => exact q.elim
  | [.int _], rs, q => exact q.elim
  | [.str _], rs, q => exact q.elim
  | a :: _ :: _, rs, q => cases a <;> exact q.elim
def rTupleA (K : PySem.W.Frag) : List V → Hp → VK → Prop := fun xs H Q => ∃ p ys, xs = [.ref p] ∧ ((SqL K H p ys ∧ ∀ l, H l = none → Q (.ref l) (upd H l (.tup ys))) ∨ (SqT K H p ys ∧ Q (.ref p) H))
theorem cr_tuple [c : Ok S W X k] : CallR X (.type "tuple") (rTupleA S.K) := by
  have e := c.K
  rw [← e]
  exact call_tuple_of
theorem cm_tuple : CM S W (rTupleA S.K) fTuple := by
  intro ρ H m ds vs Q rm rs q
  match ds, rs, q with
  | [.tup xs], rs, q =>
    obtain ⟨v, t, e, r1, r2⟩ := rs.of_cons
    obtain ⟨a, ys, e1, s1, r3⟩ := RD.of_tup r1
    exact ⟨a, ys, by rw [e, e1, r2.of_nil], .inr ⟨s1, Post.val q rm (RD.tup' s1 r3)⟩⟩
  | [.ref n], rs, q =>
    obtain ⟨v, t, e, r1, r2⟩ := rs.of_cons
    obtain ⟨a, e1, hr⟩ := RD.of_ref r1
    have q' : PostV S W (match lstOf m n with | some xs => .ok (.tup xs) m | none => .bad) ρ H Q := q
    cases e0 : lstOf m n with
    | none =>
      rw [e0] at q'
      exact q'.elim
    | some xs =>
      rw [e0] at q'
      obtain ⟨a2, ys, h1, h2, h3⟩ := rm.lstOf e0
      rw [hr] at h1
      cases h1
      exact ⟨a, ys, by rw [e, e1, r2.of_nil], .inl ⟨h2, Post.tup q' rm h3⟩⟩
  | [], rs, q => exact q.elim
  | [.non], rs, q => exact q.elim
  | [.bl _], rs, q => exact q.elim
  | [.int _], rs, q => exact q.elim
  | [.str _], rs, q => exact q.elim
  | a :: _ :: _, rs, q => cases a <;> exact q.elim
theorem bools_of {K : PySem.W.Frag} {ρ : Rho} {H : Hp} : ∀ {xs : List D} {vs : List V} {bs : List Bool}, RDs K ρ H xs vs → bools xs = some bs → vs = bs.map V.bl
  | [], vs, bs, r, h => by
    cases h
    exact r.of_nil
  | .bl b :: t, vs, bs, r, h => by
    obtain ⟨y, u, e, r1, r2⟩ := r.of_cons
    have h' : (bools t).map (fun l => b :: l) = some bs := h
    cases q : bools t with
    | none =>
      rw [q] at h'
      cases h'
    | some l =>
      rw [q] at h'
      cases h'
      rw [e, RD.of_bl r1, bools_of r2 q]
      rfl
  | .non :: _, _, _, _, h => by cases h
  | .int _ :: _, _, _, _, h => by cases h
  | .str _ :: _, _, _, _, h => by cases h
  | .tup _ :: _, _, _, _, h => by cases h
  | .ref _ :: _, _, _, _, h => by cases h
def rAA (K : PySem.W.Frag) (any : Bool) : List V → Hp → VK → Prop := fun vs H Q => ∃ (a : Addr) (bs : List Bool), vs = [V.ref a] ∧ SqL K H a (bs.map V.bl) ∧ Q (.bl (if any then bs.any id else bs.all id)) H
theorem cr_allM [c : Ok S W X k] : CallR X (.builtin "all") (rAA S.K false) := by
  have e := c.K
  rw [← e]
  exact cr_all c.calm
theorem cr_anyM [c : Ok S W X k] : CallR X (.builtin "any") (rAA S.K true) := by
  have e := c.K
  rw [← e]
  exact cr_any c.calm
theorem cm_aa (any : Bool) : CM S W (rAA S.K any) (fAll any) := by
  intro ρ H m ds vs Q rm rs q
  match ds, rs, q with
  | [.ref n], rs, q =>
    obtain ⟨v, t, e, r1, r2⟩ := rs.of_cons
    obtain ⟨a, e1, hr⟩ := RD.of_ref r1
    have q' : PostV S W (match lstOf m n with | some xs => (match bools xs with | some bs => .ok (.bl (if any then bs.any id else bs.all id)) m | none => .bad) | none => .bad) ρ H Q := q
    cases e0 : lstOf m n with
    | none =>
      rw [e0] at q'
      exact q'.elim
    | some xs =>
      rw [e0] at q'
      have q' : PostV S W (match bools xs with | some bs => .ok (.bl (if any then bs.any id else bs.all id)) m | none => .bad) ρ H Q := q'
      cases e3 : bools xs with
      | none =>
        rw [e3] at q'
        exact q'.elim
      | some bs =>
        rw [e3] at q'
        obtain ⟨a2, ys, h1, h2, h3⟩ := rm.lstOf e0
        rw [hr] at h1
        cases h1
        rw [bools_of h3 e3] at h2
        exact ⟨a, bs, by rw [e, e1, r2.of_nil], h2, Post.val q' rm RD.bl⟩
  | [], rs, q => exact q.elim
  | [.non], rs, q => exact q.elim
  | [.bl _], rs, q => exact q.elim
  | [.int _], rs, q => exact q.elim
  | [.str _], rs, q => exact q.elim
  | [.tup _], rs, q => exact q.elim
  | a :: _ :: _, rs, q => cases a <;> exact q.elim
end
end Mi
end

section
set_option Elab.async false
set_option linter.all false
set_option maxRecDepth 100000
set_option autoImplicit false
set_option maxHeartbeats 1000000
namespace Mi
open PySem PySem.Spec PyProof.Rows L2

/-! ## Defs of the program, called -/
abbrev Fn := List D → Mem → R D
/-- a def's promise by its mirror -/
def spF (S : Sg) (F : Fn) (n : Nat) : Sp := fun vs H Q W => ∃ ρ ds m, RDs S.K ρ H ds vs ∧ ds.length = n ∧ RM S ρ H m ∧ PostV S W (F ds m) ρ H Q
theorem spF_len {S : Sg} {F : Fn} {n : Nat} {vs : List V} {H : Hp} {Q : VK} {W : XK} (h : spF S F n vs H Q W) : vs.length = n := by
  obtain ⟨ρ, ds, m, r, l, _⟩ := h
  rw [← r.length, l]
def runF (F : Fn) (n : Nat) (ds : List D) (m : Mem) : R D := match Nat.beq ds.length n with
  | true => F ds m
  | false => .bad
theorem runF_of {S : Sg} {W : XK} {F : Fn} {n : Nat} {ds : List D} {m : Mem} {ρ : Rho} {H : Hp} {Q : VK} (h : PostV S W (runF F n ds m) ρ H Q) : ds.length = n ∧ PostV S W (F ds m) ρ H Q := by
  unfold runF at h
  cases e : Nat.beq ds.length n with
  | false =>
    rw [e] at h
    exact h.elim
  | true =>
    rw [e] at h
    exact ⟨Nat.eq_of_beq_eq_true e, h⟩
def eFn (F : Fn) (n : Nat) (dds : List D) (c : Es) : E := fun e m => (c e m).bind fun ds m1 => runF F n (ds ++ dds) m1
section
variable {X : Cx} {S : Sg} {W : XK} {x : Str} {p pos : Pos} {e : Expr} {es : List Expr} {cs : Es} {F : Fn} {k j n : Nat} {f : Addr} {fd : FuncData} {ps : List Str} {dds : List D} {dvs : List V} {ds : List Value}
theorem fn_mono (hd : dds.map D.v = dvs.map some) {σ : L2.St} {H : Hp} {Q : VK} (h : I S W (eFn F n dds cs) σ H Q) : tCall (spF S F n) dvs W (IA S W cs) σ H Q := by
  obtain ⟨ρ, e, m, sr, rm, h⟩ := h
  refine (IA.step (c := cs) sr rm h).mono fun vs H1 ⟨ρ1, xs, m1, N, h1⟩ => ?_
  obtain ⟨l, h2⟩ := runF_of h1
  exact ⟨ρ1, xs ++ dds, m1, N.rel.append (D.vs_ok hd _ _ _), l, N.rm, h2⟩
theorem me_call [c : Ok S W X k] (hF : FnOk X.prog X.w X.K X.mg X.base (L2.CX X.prog X.w) j f fd ps (spF S F n)) (hg : Gl X x) (hm : X.mg x = some (.ref f)) (hk : PySem.W.keepIn X.K (.ref f) = true) (hb : Binds X.K fd ps ds) (hv : Vals dvs ds) (hd : dds.map D.v = dvs.map some)
    (ha : PA X (e :: es) (IA S W cs)) (hj : j ≤ k := by decide) (hdb : (x == ("__debug__" : Str)) = false := by decide) (he : starEach (e :: es) X.env = (false, eval e X.env) :: starEach es X.env := by rfl) (hpl : (backTo pos (starEach es X.env)).any (·.1) = false := by rfl) :
    PE X (.Call (.Name x p) (e :: es) [] pos) (I S W (eFn F n dds cs)) := (pe_call hF (c.room.mono hj) hg hm hk hb hv c.pass ha hdb he hpl).mono fun _ _ _ => fn_mono hd
theorem me_call0 [c : Ok S W X k] (hF : FnOk X.prog X.w X.K X.mg X.base (L2.CX X.prog X.w) j f fd ps (spF S F n)) (hg : Gl X x) (hm : X.mg x = some (.ref f)) (hk : PySem.W.keepIn X.K (.ref f) = true) (hb : Binds X.K fd ps ds) (hv : Vals dvs ds) (hd : dds.map D.v = dvs.map some)
    (hj : j ≤ k := by decide) (hdb : (x == ("__debug__" : Str)) = false := by decide) :
    PE X (.Call (.Name x p) [] [] pos) (I S W (eFn F n dds esNil)) := (pe_call0 hF (c.room.mono hj) hg hm hk hb hv c.pass hdb).mono fun σ H Q ⟨ρ, e, m, sr, rm, h⟩ => by
  obtain ⟨l, h2⟩ := runF_of (show PostV S W (runF F n ([] ++ dds) m) ρ H Q from h)
  exact ⟨ρ, [] ++ dds, m, D.vs_ok hd _ _ _, l, rm, h2⟩
end

/-! ## Instances: attributes -/
theorem lookup_of {S : Sg} {ρ : Rho} {H : Hp} (inj : ∀ i j, i < S.nf → j < S.nf → S.fn i = S.fn j → i = j) {i : Nat} (hi : i < S.nf) : ∀ {fs : List (Nat × D)} {vs : List V}, (∀ p ∈ fs, p.1 < S.nf) → RDs S.K ρ H (fs.map (·.2)) vs →
    (∀ d, fs.lookup i = some d → ∃ v, ((fs.map fun p => S.fn p.1).zip vs).lookup (S.fn i) = some v ∧ RD S.K ρ H d v) ∧ (fs.lookup i = none → ((fs.map fun p => S.fn p.1).zip vs).lookup (S.fn i) = none)
  | [], vs, _, r => ⟨fun d h => (nomatch (show (none : Option D) = some d from h)), fun _ => rfl⟩
  | (g, d) :: t, vs, hf, r => by
    obtain ⟨y, u, e, r1, r2⟩ := r.of_cons
    obtain ⟨h1, h2⟩ := lookup_of inj hi (fs := t) (vs := u) (fun p hp => hf p (List.mem_cons_of_mem _ hp)) r2
    have hg : g < S.nf := hf (g, d) List.mem_cons_self
    rw [e]
    show (∀ d', List.lookup i ((g, d) :: t) = some d' → ∃ v, List.lookup (S.fn i) ((S.fn g, y) :: (t.map fun p => S.fn p.1).zip u) = some v ∧ _) ∧ (List.lookup i ((g, d) :: t) = none → List.lookup (S.fn i) ((S.fn g, y) :: (t.map fun p => S.fn p.1).zip u) = none)
    by_cases q : i = g
    · have b1 : (i == g) = true := beq_iff_eq.mpr q
      have b2 : (S.fn i == S.fn g) = true := beq_iff_eq.mpr (by rw [q])
      simp only [List.lookup, b1, b2]
      refine ⟨fun d' h => ?_, fun h => by cases h⟩
      cases h
      exact ⟨y, rfl, r1⟩
    · have b1 : (i == g) = false := beq_eq_false_iff_ne.mpr q
      have b2 : (S.fn i == S.fn g) = false := beq_eq_false_iff_ne.mpr fun z => q (inj i g hi hg z)
      simp only [List.lookup, b1, b2]
      exact ⟨h1, h2⟩
def insOf (m : Mem) (n : Nat) : Option (Nat × List (Nat × D)) := match m.get n with
  | some (.ins c fs) => some (c, fs)
  | _ => none
theorem RM.ins {S : Sg} {ρ : Rho} {H : Hp} {m : Mem} (rm : RM S ρ H m) {n c : Nat} {fs : List (Nat × D)} (h : insOf m n = some (c, fs)) :
    ∃ a dx vs, ρ n = some a ∧ H a = some (.ins (S.ca c) dx ((fs.map fun p => S.fn p.1).zip vs)) ∧ RDs S.K ρ H (fs.map (·.2)) vs ∧ ∀ p ∈ fs, p.1 < S.nf := by
  unfold insOf at h
  split at h
  · rename_i c' fs' e
    cases h
    obtain ⟨a, h1, dx, vs, h2, h3, h4⟩ := rm.ob n _ e
    exact ⟨a, dx, vs, h1, h2, h3, h4⟩
  · cases h
/-- o.f, o an instance of one of the classes cs -/
def getF (f : Nat) (cs : List Nat) (x : D) (m : Mem) : R D := match x with
  | .ref n => (match insOf m n with
    | some (c, fs) => (match cs.any (Nat.beq c) with
      | true => (match fs.lookup f with
        | some d => .ok d m
        | none => .bad)
      | false => .bad)
    | none => .bad)
  | _ => .bad
def eFld (f : Nat) (cs : List Nat) (o : E) : E := fun e m => (o e m).bind fun x m1 => getF f cs x m1
/-- what the written part says of an attribute of some classes -/
def FldOk (S : Sg) (f : Nat) (cs : List Nat) : Prop := f < S.nf ∧ ∀ c ∈ cs, Cls S.K (S.ca c) ∧ NoAttr S.K (S.ca c) (S.fn f)
theorem any_beq {c : Nat} {cs : List Nat} (h : cs.any (Nat.beq c) = true) : c ∈ cs := by
  obtain ⟨x, h1, h2⟩ := List.any_eq_true.mp h
  rw [Nat.eq_of_beq_eq_true h2]
  exact h1
section
variable {X : Cx} {S : Sg} {W : XK} {x m : Str} {p pos apos pos' tpos : Pos} {o v : Expr} {co cv : E} {k j n fid : Nat} {cs : List Nat}
theorem me_fld [c : Ok S W X k] (hf : FldOk S fid cs) (ho : PE X o (I S W co)) (hx : x = S.fn fid := by rfl) (hb : attributeBase o x X.env (eval o X.env) = eval o X.env := by rfl) : PE X (.Attribute o x pos) (I S W (eFld fid cs co)) := by
  subst hx
  have eK := c.K
  refine (pe_fld ho hb).mono fun σ H Q ⟨ρ, e, m, sr, rm, h⟩ => ?_
  rw [eK]
  refine (I.step (c := co) sr rm h).mono fun v H1 ⟨ρ1, d, m1, N, h1⟩ => ?_
  cases d with
  | ref n =>
    obtain ⟨a, e1, hr⟩ := RD.of_ref N.rel
    have h2 : PostV S W (match insOf m1 n with | some (c, fs) => (match cs.any (Nat.beq c) with | true => (match fs.lookup fid with | some d => .ok d m1 | none => .bad) | false => .bad) | none => .bad) ρ1 H1 Q := h1
    cases e2 : insOf m1 n with
    | none =>
      rw [e2] at h2
      exact h2.elim
    | some cf =>
      obtain ⟨cl, fs⟩ := cf
      rw [e2] at h2
      have h2 : PostV S W (match cs.any (Nat.beq cl) with | true => (match fs.lookup fid with | some d => .ok d m1 | none => .bad) | false => .bad) ρ1 H1 Q := h2
      cases e3 : cs.any (Nat.beq cl) with
      | false =>
        rw [e3] at h2
        exact h2.elim
      | true =>
        rw [e3] at h2
        have h2 : PostV S W (match fs.lookup fid with | some d => .ok d m1 | none => .bad) ρ1 H1 Q := h2
        cases e4 : fs.lookup fid with
        | none =>
          rw [e4] at h2
          exact h2.elim
        | some d =>
          rw [e4] at h2
          obtain ⟨a2, dx, vs, g1, g2, g3, g4⟩ := N.rm.ins e2
          rw [hr] at g1
          cases g1
          obtain ⟨w, l1, l2⟩ := (lookup_of c.inj hf.1 g4 g3).1 d e4
          obtain ⟨k1, k2⟩ := hf.2 cl (any_beq e3)
          exact ⟨a, _, dx, _, w, e1, g2, k1, k2, l1, Post.val h2 N.rm l2⟩
  | _ => exact h1.elim
end

/-! ## Methods -/
def eMeth (cid mid : Nat) (F : Fn) (n : Nat) (dds : List D) (o : E) (c : Es) : E := fun e m => (o e m).bind fun x m1 => match x with
  | .ref a => (match insOf m1 a with
    | some (cl, fs) => (match Nat.beq cl cid with
      | true => (match fs.lookup mid with
        | none => (c e m1).bind fun ds m2 => runF F n (.ref a :: (ds ++ dds)) m2
        | some _ => .bad)
      | false => .bad)
    | none => .bad)
  | _ => .bad
section
variable {X : Cx} {S : Sg} {W : XK} {x : Str} {p pos apos : Pos} {e o : Expr} {es : List Expr} {co : E} {cs : Es} {F : Fn} {k j n cid mid : Nat} {f : Addr} {fd : FuncData} {ps : List Str} {dds : List D} {dvs : List V} {ds : List Value}
theorem meth_mono (inj : ∀ i j, i < S.nf → j < S.nf → S.fn i = S.fn j → i = j) (hi : mid < S.nf) (hd : dds.map D.v = dvs.map some) {σ : L2.St} {H : Hp} {Q : VK} (h : I S W (eMeth cid mid F n dds co cs) σ H Q) : tMeth (S.ca cid) (S.fn mid) (spF S F n) dvs W (I S W co) (IA S W cs) σ H Q := by
  obtain ⟨ρ, e, m, sr, rm, h⟩ := h
  refine (I.step (c := co) sr rm h).mono fun v H1 ⟨ρ1, d, m1, N, h1⟩ => ?_
  cases d with
  | ref a =>
    obtain ⟨ad, e1, hr⟩ := RD.of_ref N.rel
    have h2 : PostV S W (match insOf m1 a with | some (cl, fs) => (match Nat.beq cl cid with | true => (match fs.lookup mid with | none => (cs e m1).bind fun ds m2 => runF F n (.ref a :: (ds ++ dds)) m2 | some _ => .bad) | false => .bad) | none => .bad) ρ1 H1 Q := h1
    cases e2 : insOf m1 a with
    | none =>
      rw [e2] at h2
      exact h2.elim
    | some cf =>
      obtain ⟨cl, fs⟩ := cf
      rw [e2] at h2
      have h2 : PostV S W (match Nat.beq cl cid with | true => (match fs.lookup mid with | none => (cs e m1).bind fun ds m2 => runF F n (.ref a :: (ds ++ dds)) m2 | some _ => .bad) | false => .bad) ρ1 H1 Q := h2
      cases e3 : Nat.beq cl cid with
      | false =>
        rw [e3] at h2
        exact h2.elim
      | true =>
        rw [e3] at h2
        have h2 : PostV S W (match fs.lookup mid with | none => (cs e m1).bind fun ds m2 => runF F n (.ref a :: (ds ++ dds)) m2 | some _ => .bad) ρ1 H1 Q := h2
        cases e4 : fs.lookup mid with
        | some d =>
          rw [e4] at h2
          exact h2.elim
        | none =>
          rw [e4] at h2
          have ec : cl = cid := Nat.eq_of_beq_eq_true e3
          obtain ⟨a2, dx, vs, g1, g2, g3, g4⟩ := N.rm.ins e2
          rw [hr] at g1
          cases g1
          rw [ec] at g2
          refine ⟨ad, dx, _, e1, g2, (lookup_of inj hi g4 g3).2 e4, ?_⟩
          have h2 : PostV S W ((cs e m1).bind fun ds m2 => runF F n (.ref a :: (ds ++ dds)) m2) ρ1 H1 Q := h2
          refine (IA.step (c := cs) N.sr N.rm h2).mono fun us H2 ⟨ρ2, xs, m2, N2, h3⟩ => ?_
          obtain ⟨l, h4⟩ := runF_of h3
          exact ⟨ρ2, _, m2, RDs.cons (N.rel.ext N2.ext) (N2.rel.append (D.vs_ok hd _ _ _)), l, N2.rm, h4⟩
  | _ => exact h1.elim
theorem me_meth [c : Ok S W X k] {pl : Sem Bool} (ho : PE X o (I S W co)) (hc : Cls X.K (S.ca cid)) (hm : Meth X.K (S.ca cid) x f) (hF : FnOk X.prog X.w X.K X.mg X.base (L2.CX X.prog X.w) j f fd ps (spF S F n)) (hb : Binds X.K fd ps ds) (hv : Vals dvs ds) (hd : dds.map D.v = dvs.map some) (hi : mid < S.nf)
    (ha : PA X (e :: es) (IA S W cs)) (hx : x = S.fn mid := by rfl) (hj : j ≤ k := by decide) (hst : starEach (e :: es) X.env = (false, eval e X.env) :: starEach es X.env := by rfl) (hpl : (backTo pos (starEach es X.env)).any (·.1) = false := by rfl)
    (ht : eval (.Call (.Attribute o x apos) (e :: es) [] pos) X.env = (do
      let ov ← eval o X.env
      standAt apos.atName
      let (f, first) ← holding [ov] (getMethod ov x pl)
      callWith pos f first (backTo pos (starEach (e :: es) X.env)) (backToKw pos (keywordEach [] X.env))) := by rfl) :
    PE X (.Call (.Attribute o x apos) (e :: es) [] pos) (I S W (eMeth cid mid F n dds co cs)) := by
  subst hx
  exact (pe_meth ho hc hm hF (c.room.mono hj) hb hv c.pass ha hst hpl ht).mono fun _ _ _ => meth_mono c.inj hi hd
theorem me_meth0 [c : Ok S W X k] {pl : Sem Bool} (ho : PE X o (I S W co)) (hc : Cls X.K (S.ca cid)) (hm : Meth X.K (S.ca cid) x f) (hF : FnOk X.prog X.w X.K X.mg X.base (L2.CX X.prog X.w) j f fd ps (spF S F n)) (hb : Binds X.K fd ps ds) (hv : Vals dvs ds) (hd : dds.map D.v = dvs.map some) (hi : mid < S.nf)
    (hx : x = S.fn mid := by rfl) (hj : j ≤ k := by decide)
    (ht : eval (.Call (.Attribute o x apos) [] [] pos) X.env = (do
      let ov ← eval o X.env
      standAt apos.atName
      let (f, first) ← holding [ov] (getMethod ov x pl)
      callWith pos f first (backTo pos (starEach [] X.env)) (backToKw pos (keywordEach [] X.env))) := by rfl) :
    PE X (.Call (.Attribute o x apos) [] [] pos) (I S W (eMeth cid mid F n dds co esNil)) := by
  subst hx
  refine (pe_meth0 ho hc hm hF (c.room.mono hj) hb hv c.pass ht).mono fun σ H Q h => ?_
  have q := meth_mono (cs := esNil) (dvs := dvs) c.inj hi hd h
  refine I.mono q fun v H1 ⟨a, dx, fs, h1, h2, h3, h4⟩ => ⟨a, dx, fs, h1, h2, h3, ?_⟩
  obtain ⟨ρ, e, m, sr, rm, h5⟩ := h4
  exact Post.here h5 rm RDs.nil

/-! ## New instances -/
def eMake (cid : Nat) (F : Fn) (n : Nat) (dds : List D) (c : Es) : E := fun e m => (c e m).bind fun ds m1 => (runF F n (.ref m1.next :: (ds ++ dds)) (m1.new (.ins cid []))).bind fun r m2 => match r with
  | .non => .ok (.ref m1.next) m2
  | _ => .bad
theorem me_make [c : Ok S W X k] (M : Mk X.K (S.ca cid) f) (hF : FnOk X.prog X.w X.K X.mg X.base (L2.CX X.prog X.w) j f fd ps (spF S F n)) (hg : Gl X x) (hm : X.mg x = some (.ref (S.ca cid))) (hb : Binds X.K fd ps ds) (hv : Vals dvs ds) (hd : dds.map D.v = dvs.map some)
    (ha : PA X (e :: es) (IA S W cs)) (hj : j + 1 ≤ k := by decide) (hdb : (x == ("__debug__" : Str)) = false := by decide) (he : starEach (e :: es) X.env = (false, eval e X.env) :: starEach es X.env := by rfl) (hpl : (backTo pos (starEach es X.env)).any (·.1) = false := by rfl) :
    PE X (.Call (.Name x p) (e :: es) [] pos) (I S W (eMake cid F n dds cs)) := by
  refine (pe_make M hF (c.room.mono hj) hg hm hb hv c.pass ha hdb he hpl).mono fun σ H Q ⟨ρ, e, m, sr, rm, h⟩ => ?_
  refine (IA.step (c := cs) sr rm h).mono fun vs H1 ⟨ρ1, xs, m1, N, h1⟩ => ?_
  intro x dx nx ndx nex
  have r1 : RM S ρ1 (upd H1 dx (.own x)) m1 := N.rm.free ndx
  have x1 : Ext ρ1 H1 ρ1 (upd H1 dx (.own x)) := ext_upd (none_fix ndx)
  have nx' : upd H1 dx (.own x) x = none := by rw [upd_ne (Ne.symm nex)]; exact nx
  have x2 : Ext ρ1 (upd H1 dx (.own x)) (rnew ρ1 m1 x) (upd (upd H1 dx (.own x)) x (.ins (S.ca cid) dx [])) := r1.extNew nx'
  have r2 : RM S (rnew ρ1 m1 x) (upd (upd H1 dx (.own x)) x (.ins (S.ca cid) dx [])) (m1.new (.ins cid [])) := r1.new nx' ⟨dx, [], upd_same, RDs.nil, fun p hp => by cases hp⟩
  have xx := x1.trans x2
  have hb2 := Post.bind (Rel := RD S.K) (σ := σ) (e := e) (N.sr.ext xx) (Post.ext h1 xx)
  obtain ⟨l, h3⟩ := runF_of hb2
  refine ⟨_, _, _, RDs.cons (RD.ref (rnew_self _ _ _)) ((N.rel.ext xx).append (D.vs_ok hd _ _ _)), l, r2, ?_⟩
  refine Post.mono h3 fun b H' ⟨ρ', a, m', N', h4⟩ => ?_
  cases a with
  | non => exact ⟨RD.of_non N'.rel, Post.val (show PostV S W (.ok (.ref m1.next) m') ρ' H' Q from h4) N'.rm (RD.ref (N'.ext.map _ _ (rnew_self _ _ _)))⟩
  | _ => exact h4.elim
end
end Mi
end

section
set_option Elab.async false
set_option linter.all false
set_option maxRecDepth 100000
set_option autoImplicit false
set_option maxHeartbeats 1000000
namespace Mi
open PySem PySem.Spec PyProof.Rows L2

/-! ## Statements -/
inductive RS where
  | nx (e : Lo) (m : Mem)
  | rt (d : D) (m : Mem)
  | bk (e : Lo) (m : Mem)
  | ct (e : Lo) (m : Mem)
  | err (x : Xn) (m : Mem)
  | bad
abbrev Sm := Lo → Mem → RS
def RS.bind (r : RS) (f : Sm) : RS := match r with
  | .nx e m => f e m
  | .rt d m => .rt d m
  | .bk e m => .bk e m
  | .ct e m => .ct e m
  | .err x m => .err x m
  | .bad => .bad
def R.toS {α : Type} (r : R α) (f : α → Mem → RS) : RS := match r with
  | .ok a m => f a m
  | .err x m => .err x m
  | .bad => .bad
def PostS (S : Sg) (W : XK) (r : RS) (ρ : Rho) (H : Hp) (Z : Ends) : Prop := match r with
  | .nx e m => ∀ ρ' H' σ', Ext ρ H ρ' H' → RM S ρ' H' m → SR S ρ' H' σ' e → Z.nx σ' H'
  | .rt d m => ∀ ρ' H' v, Ext ρ H ρ' H' → RM S ρ' H' m → RD S.K ρ' H' d v → Z.rt v H'
  | .bk e m => ∀ ρ' H' σ', Ext ρ H ρ' H' → RM S ρ' H' m → SR S ρ' H' σ' e → Z.bk σ' H'
  | .ct e m => ∀ ρ' H' σ', Ext ρ H ρ' H' → RM S ρ' H' m → SR S ρ' H' σ' e → Z.ct σ' H'
  | .err x m => ∀ ρ' H' cls d, Ext ρ H ρ' H' → RM S ρ' H' m → RX S ρ' H' x cls d → W cls d H'
  | .bad => False
def IS (S : Sg) (W : XK) (c : Sm) : TS := fun Z σ H => ∃ ρ e m, SR S ρ H σ e ∧ RM S ρ H m ∧ PostS S W (c e m) ρ H Z
section
variable {S : Sg} {W : XK} {σ : L2.St} {H : Hp} {ρ ρ' : Rho} {e : Lo} {m : Mem}
theorem PostS.ext {H' : Hp} {r : RS} {Z : Ends} (h : PostS S W r ρ H Z) (x : Ext ρ H ρ' H') : PostS S W r ρ' H' Z := by
  cases r with
  | nx e m => exact fun ρ2 H2 b y => h ρ2 H2 b (x.trans y)
  | rt d m => exact fun ρ2 H2 b y => h ρ2 H2 b (x.trans y)
  | bk e m => exact fun ρ2 H2 b y => h ρ2 H2 b (x.trans y)
  | ct e m => exact fun ρ2 H2 b y => h ρ2 H2 b (x.trans y)
  | err z m => exact fun ρ2 H2 c d y => h ρ2 H2 c d (x.trans y)
  | bad => exact h
theorem PostS.mono {r : RS} {Z Z' : Ends} (h : PostS S W r ρ H Z) (h1 : ∀ σ H, Z.nx σ H → Z'.nx σ H) (h2 : ∀ v H, Z.rt v H → Z'.rt v H) (h3 : ∀ σ H, Z.bk σ H → Z'.bk σ H) (h4 : ∀ σ H, Z.ct σ H → Z'.ct σ H) : PostS S W r ρ H Z' := by
  cases r with
  | nx e m => exact fun ρ2 H2 b y r1 r2 => h1 _ _ (h ρ2 H2 b y r1 r2)
  | rt d m => exact fun ρ2 H2 b y r1 r2 => h2 _ _ (h ρ2 H2 b y r1 r2)
  | bk e m => exact fun ρ2 H2 b y r1 r2 => h3 _ _ (h ρ2 H2 b y r1 r2)
  | ct e m => exact fun ρ2 H2 b y r1 r2 => h4 _ _ (h ρ2 H2 b y r1 r2)
  | err z m => exact h
  | bad => exact h
theorem PostS.bind {r : RS} {f : Sm} {Z : Ends} (h : PostS S W (r.bind f) ρ H Z) : PostS S W r ρ H { Z with nx := IS S W f Z } := by
  cases r with
  | nx e m => exact fun ρ2 H2 b y r1 r2 => ⟨ρ2, e, m, r2, r1, PostS.ext (show PostS S W (f e m) ρ H Z from h) y⟩
  | rt d m => exact h
  | bk e m => exact h
  | ct e m => exact h
  | err z m => exact h
  | bad => exact h
/-- behind an expression -/
theorem Post.toS {α β : Type} {Rel : Rho → Hp → α → β → Prop} {r : R α} {f : α → Mem → RS} {Z : Ends} (sr : SR S ρ H σ e) (h : PostS S W (r.toS f) ρ H Z) :
    Post S Rel W r ρ H fun b H' => ∃ ρ' a m', Now S Rel ρ H σ e a m' b ρ' H' ∧ PostS S W (f a m') ρ' H' Z := by
  cases r with
  | ok a m => exact fun ρ' H' b x r1 r2 => ⟨ρ', a, m, ⟨x, r1, r2, sr.ext x⟩, PostS.ext (show PostS S W (f a m) ρ H Z from h) x⟩
  | err y m => exact h
  | bad => exact h
theorem I.toS {c : E} {f : D → Mem → RS} {Z : Ends} (sr : SR S ρ H σ e) (rm : RM S ρ H m) (h : PostS S W ((c e m).toS f) ρ H Z) :
    I S W c σ H fun v H' => ∃ ρ' a m', Now S (RD S.K) ρ H σ e a m' v ρ' H' ∧ PostS S W (f a m') ρ' H' Z := ⟨ρ, e, m, sr, rm, Post.toS sr h⟩
theorem IA.toS {c : Es} {f : List D → Mem → RS} {Z : Ends} (sr : SR S ρ H σ e) (rm : RM S ρ H m) (h : PostS S W ((c e m).toS f) ρ H Z) :
    IA S W c σ H fun v H' => ∃ ρ' a m', Now S (RDs S.K) ρ H σ e a m' v ρ' H' ∧ PostS S W (f a m') ρ' H' Z := ⟨ρ, e, m, sr, rm, Post.toS sr h⟩
theorem IT.toS {c : Et} {f : Bool → Mem → RS} {Z : Ends} (sr : SR S ρ H σ e) (rm : RM S ρ H m) (h : PostS S W ((c e m).toS f) ρ H Z) :
    IT S W c σ H fun v H' => ∃ ρ' a m', Now S (fun _ _ a b => b = a) ρ H σ e a m' v ρ' H' ∧ PostS S W (f a m') ρ' H' Z := ⟨ρ, e, m, sr, rm, Post.toS sr h⟩
theorem PostS.nxt {Z : Ends} (h : PostS S W (.nx e m) ρ H Z) (rm : RM S ρ H m) (sr : SR S ρ H σ e) : Z.nx σ H := h ρ H σ Ext.refl rm sr
theorem PostS.ret {Z : Ends} {d : D} {v : V} (h : PostS S W (.rt d m) ρ H Z) (rm : RM S ρ H m) (r : RD S.K ρ H d v) : Z.rt v H := h ρ H v Ext.refl rm r
end
theorem PS.mono {X : Cx} {st : Stmt} {t t' : TS} (h : PS X st t) (k : ∀ Z σ H, t' Z σ H → t Z σ H) : PS X st t' := ⟨fun pins s σ H Z I q => h.run pins s σ H Z I (k _ _ _ q)⟩
theorem PSs.mono {X : Cx} {st : List Stmt} {t t' : TS} (h : PSs X st t) (k : ∀ Z σ H, t' Z σ H → t Z σ H) : PSs X st t' := ⟨fun pins s σ H Z I q => h.run pins s σ H Z I (k _ _ _ q)⟩
theorem IS.mono {S : Sg} {W : XK} {c : Sm} {σ : L2.St} {H : Hp} {Z Z' : Ends} (h : IS S W c Z σ H) (h1 : ∀ σ H, Z.nx σ H → Z'.nx σ H) (h2 : ∀ v H, Z.rt v H → Z'.rt v H) (h3 : ∀ σ H, Z.bk σ H → Z'.bk σ H) (h4 : ∀ σ H, Z.ct σ H → Z'.ct σ H) : IS S W c Z' σ H :=
  let ⟨ρ, e, m, sr, rm, q⟩ := h; ⟨ρ, e, m, sr, rm, q.mono h1 h2 h3 h4⟩

def sNil : Sm := fun e m => .nx e m
def sSeq (a b : Sm) : Sm := fun e m => (a e m).bind b
def sExpr (a : E) : Sm := fun e m => (a e m).toS fun _ m1 => .nx e m1
def sRet (a : E) : Sm := fun e m => (a e m).toS fun d m1 => .rt d m1
def sRetN : Sm := fun _ m => .rt .non m
def sIf (t : Et) (a b : Sm) : Sm := fun e m => (t e m).toS fun k m1 => match k with
  | true => a e m1
  | false => b e m1
def sBreak : Sm := fun e m => .bk e m
def sCont : Sm := fun e m => .ct e m
def sBad : Sm := fun _ _ => .bad
def sSet (i : Nat) (a : E) : Sm := fun e m => (a e m).toS fun d m1 => .nx (e.set i (some d)) m1
def sSet2 (i j : Nat) (a : Es) : Sm := fun e m => (a e m).toS fun ds m1 => match ds with
  | [x, y] => .nx ((e.set i (some x)).set j (some y)) m1
  | _ => .bad
section
variable {X : Cx} {S : Sg} {W : XK} {pos pos' : Pos} {st : Stmt} {sts : List Stmt} {a b : Expr} {t : Expr} {ca : E} {ta : Et} {c1 c2 : Sm} {cs : Es} {bs1 bs2 : List Stmt}
theorem mss_nil : PSs X [] (IS S W sNil) := PSs.mono pss_nil fun Z σ H ⟨ρ, e, m, sr, rm, h⟩ => PostS.nxt h rm sr
theorem mss_cons (h1 : PS X st (IS S W c1)) (h2 : PSs X sts (IS S W c2)) : PSs X (st :: sts) (IS S W (sSeq c1 c2)) := PSs.mono (pss_cons h1 h2) fun Z σ H ⟨ρ, e, m, sr, rm, h⟩ => ⟨ρ, e, m, sr, rm, PostS.bind h⟩
theorem mss_one (h1 : PS X st (IS S W c1)) : PSs X [st] (IS S W c1) := pss_one h1
theorem ms_pass : PS X (.Pass pos) (IS S W sNil) := PS.mono ps_pass fun Z σ H ⟨ρ, e, m, sr, rm, h⟩ => PostS.nxt h rm sr
theorem ms_break : PS X (.Break pos) (IS S W sBreak) := PS.mono ps_break fun Z σ H ⟨ρ, e, m, sr, rm, h⟩ => h ρ H σ Ext.refl rm sr
theorem ms_cont : PS X (.Continue pos) (IS S W sCont) := PS.mono ps_continue fun Z σ H ⟨ρ, e, m, sr, rm, h⟩ => h ρ H σ Ext.refl rm sr
theorem ms_bad : PS X st (IS S W sBad) := PS.mono ps_never fun Z σ H ⟨ρ, e, m, sr, rm, h⟩ => h
theorem mss_bad : PSs X sts (IS S W sBad) := PSs.mono pss_never fun Z σ H ⟨ρ, e, m, sr, rm, h⟩ => h
theorem ms_expr (ha : PE X a (I S W ca)) (hs : swapsWith a none pos.line X.env = pure false := by rfl) : PS X (.Expr a pos) (IS S W (sExpr ca)) := PS.mono (ps_expr ha hs) fun Z σ H ⟨ρ, e, m, sr, rm, h⟩ =>
  (I.toS (c := ca) sr rm h).mono fun v H1 ⟨ρ1, x, m1, N, h1⟩ => PostS.nxt h1 N.rm N.sr
theorem ms_ret (ha : PE X a (I S W ca)) : PS X (.Return (some a) pos) (IS S W (sRet ca)) := PS.mono (ps_ret ha) fun Z σ H ⟨ρ, e, m, sr, rm, h⟩ =>
  (I.toS (c := ca) sr rm h).mono fun v H1 ⟨ρ1, x, m1, N, h1⟩ => PostS.ret h1 N.rm N.rel
theorem ms_retN : PS X (.Return none pos) (IS S W sRetN) := PS.mono ps_retN fun Z σ H ⟨ρ, e, m, sr, rm, h⟩ => PostS.ret h rm RD.non
theorem ms_if (ht : PT X t (IT S W ta)) (h1 : PSs X bs1 (IS S W c1)) (h2 : PSs X bs2 (IS S W c2)) : PS X (.If t bs1 bs2 pos) (IS S W (sIf ta c1 c2)) := PS.mono (ps_if ht h1 h2) fun Z σ H ⟨ρ, e, m, sr, rm, h⟩ =>
  (IT.toS (c := ta) sr rm h).mono fun v H1 ⟨ρ1, x, m1, N, h1⟩ => by
    rw [N.rel]
    cases x with
    | true => exact iteT ⟨ρ1, e, m1, N.sr, N.rm, h1⟩
    | false => exact iteF ⟨ρ1, e, m1, N.sr, N.rm, h1⟩
theorem ms_set (i : Nat) {x : Str} (hN : X.N.Nodup) (ha : PE X a (I S W ca)) (hi : X.N[i]? = some x := by rfl) (hx : Loc X.env.scope x := by first | exact Or.inl rfl | exact Or.inr rfl) (hs : swapsWith a (some (.Name x pos')) pos.line X.env = pure false := by rfl) (hf : X.fn x = true ∨ X.env.scope.names.lookup x = some .local := by first | exact .inl rfl | exact .inr rfl) :
    PS X (.Assign [.Name x pos'] a pos) (IS S W (sSet i ca)) := PS.mono (ps_set hN hi hx ha hs hf) fun Z σ H ⟨ρ, e, m, sr, rm, h⟩ =>
  (I.toS (c := ca) sr rm h).mono fun v H1 ⟨ρ1, d, m1, N, h1⟩ => PostS.nxt h1 N.rm (N.sr.set i N.rel)
theorem ms_set2 (i j : Nat) {k : Nat} [c : Ok S W X k] {x y : Str} {px py pt : Pos} {kt k2 : Nat} {pt2 : Pos} (hN : X.N.Nodup) (ha : PA X [a, b] (IA S W cs)) (hi : X.N[i]? = some x := by rfl) (hj : X.N[j]? = some y := by rfl) (hij : i ≠ j := by decide)
    (hx : X.env.scope.names.lookup x = some .local := by rfl) (hy : X.env.scope.names.lookup y = some .local := by rfl)
    (hw : swappedStores [.Tuple [.Name x px, .Name y py] kt pt] (.Tuple [a, b] k2 pt2) X.env = pure (some [x, y]) := by rfl)
    (hs : swapsWithSole [.Tuple [.Name x px, .Name y py] kt pt] (.Tuple [a, b] k2 pt2) pos.line X.env = pure false := by rfl) :
    PS X (.Assign [.Tuple [.Name x px, .Name y py] kt pt] (.Tuple [a, b] k2 pt2) pos) (IS S W (sSet2 i j cs)) := PS.mono (ps_par c.calm hN hi hj hij hx hy ha hw hs) fun Z σ H ⟨ρ, e, m, sr, rm, h⟩ =>
  (IA.toS (c := cs) sr rm h).mono fun vs H1 ⟨ρ1, ds, m1, N, h1⟩ => by
    match ds, N, h1 with
    | [x, y], N, h1 =>
      obtain ⟨v, t, e1, r1, r2⟩ := N.rel.of_cons
      obtain ⟨w, u, e2, r3, r4⟩ := r2.of_cons
      exact ⟨v, w, by rw [e1, e2, r4.of_nil], PostS.nxt h1 N.rm ((N.sr.set i r1).set j r3)⟩
    | [], N, h1 => exact h1.elim
    | [_], N, h1 => exact h1.elim
    | _ :: _ :: _ :: _, N, h1 => exact h1.elim
end

/-! ## Targets -/
abbrev Tg := D → Lo → Mem → RS
abbrev Tgs := List D → Lo → Mem → RS
def onlyNx (Q : L2.St → Hp → Prop) : Ends := { nx := Q, rt := fun _ _ => False }
def IG (S : Sg) (W : XK) (g : Tg) : TG := fun v σ H Q => ∃ ρ e m d, SR S ρ H σ e ∧ RM S ρ H m ∧ RD S.K ρ H d v ∧ PostS S W (g d e m) ρ H (onlyNx Q)
def IGs (S : Sg) (W : XK) (g : Tgs) : TGs := fun vs σ H Q => ∃ ρ e m ds, SR S ρ H σ e ∧ RM S ρ H m ∧ RDs S.K ρ H ds vs ∧ PostS S W (g ds e m) ρ H (onlyNx Q)
theorem PG.mono {X : Cx} {tg : Expr} {t t' : TG} (h : PG X tg t) (k : ∀ v σ H Q, t' v σ H Q → t v σ H Q) : PG X tg t' := ⟨fun pins s σ H v u Q I r q => h.run pins s σ H v u Q I r (k _ _ _ _ q)⟩
theorem PGs.mono {X : Cx} {tg : List Expr} {t t' : TGs} (h : PGs X tg t) (k : ∀ v σ H Q, t' v σ H Q → t v σ H Q) : PGs X tg t' := ⟨fun pins s σ H v u Q I r q => h.run pins s σ H v u Q I r (k _ _ _ _ q)⟩
def gN (i : Nat) : Tg := fun d e m => .nx (e.set i (some d)) m
def gsNil : Tgs := fun ds e m => match ds with
  | [] => .nx e m
  | _ => .bad
def gsCons (g : Tg) (r : Tgs) : Tgs := fun ds e m => match ds with
  | d :: t => (g d e m).bind fun e1 m1 => r t e1 m1
  | [] => .bad
def gT (n : Nat) (r : Tgs) : Tg := fun d e m => match d with
  | .tup ds => (match Nat.beq ds.length n with
    | true => r ds e m
    | false => .bad)
  | _ => .bad
def sAsg (a : E) (g : Tg) : Sm := fun e m => (a e m).toS fun d m1 => g d e m1
section
variable {X : Cx} {S : Sg} {W : XK} {pos : Pos} {tg a : Expr} {es : List Expr} {ca : E} {g : Tg} {gs : Tgs} {k n : Nat}
theorem mg_name (i : Nat) {x : Str} (hN : X.N.Nodup) (hi : X.N[i]? = some x := by rfl) (hx : Loc X.env.scope x := by first | exact Or.inl rfl | exact Or.inr rfl) (hf : X.fn x = true ∨ X.env.scope.names.lookup x = some .local := by first | exact .inl rfl | exact .inr rfl) : PG X (.Name x pos) (IG S W (gN i)) :=
  PG.mono (pg_name hN hi hx hf) fun v σ H Q ⟨ρ, e, m, d, sr, rm, r, h⟩ => PostS.nxt h rm (sr.set i r)
theorem mgs_nil : PGs X [] (IGs S W gsNil) := PGs.mono pgs_nil fun v σ H Q ⟨ρ, e, m, ds, sr, rm, r, h⟩ => by
  cases ds with
  | nil => exact ⟨r.of_nil, PostS.nxt h rm sr⟩
  | cons d t => exact h.elim
theorem mgs_cons (h1 : PG X tg (IG S W g)) (h2 : PGs X es (IGs S W gs)) (hs : (assignEach (tg :: es) X.env).map (·.2) = assign tg X.env :: (assignEach es X.env).map (·.2) := by rfl) : PGs X (tg :: es) (IGs S W (gsCons g gs)) :=
  PGs.mono (pgs_cons h1 h2 hs) fun v σ H Q ⟨ρ, e, m, ds, sr, rm, r, h⟩ => by
    cases ds with
    | nil => exact h.elim
    | cons d t =>
      obtain ⟨y, u, e1, r1, r2⟩ := r.of_cons
      refine ⟨y, u, e1, ρ, e, m, d, sr, rm, r1, ?_⟩
      have h' : PostS S W ((g d e m).bind fun e1 m1 => gs t e1 m1) ρ H (onlyNx Q) := h
      revert h'
      cases g d e m with
      | nx e1 m1 => exact fun h' ρ2 H2 σ2 x a b => ⟨ρ2, e1, m1, t, b, a, r2.ext x, h'.ext x⟩
      | rt d m => exact fun h' => h'
      | bk e m => exact fun h' => h'
      | ct e m => exact fun h' => h'
      | err x m => exact fun h' => h'
      | bad => exact fun h' => h'
theorem mg_tup [c : Ok S W X k] {j : Nat} (h : PGs X es (IGs S W gs)) (hn : (assignEach es X.env).length = n := by rfl) (hst : (assignEach es X.env).findIdx? (·.1) = none := by rfl) : PG X (.Tuple es j pos) (IG S W (gT n gs)) := by
  have eK := c.K
  refine PG.mono (pg_tup c.calm h hn hst) fun v σ H Q ⟨ρ, e, m, d, sr, rm, r, h⟩ => ?_
  rw [eK]
  cases d with
  | tup ds =>
    obtain ⟨a, ys, e1, s1, r1⟩ := RD.of_tup r
    have h' : PostS S W (match Nat.beq ds.length n with | true => gs ds e m | false => .bad) ρ H (onlyNx Q) := h
    cases e2 : Nat.beq ds.length n with
    | false =>
      rw [e2] at h'
      exact h'.elim
    | true =>
      rw [e2] at h'
      exact ⟨a, ys, e1, s1, by rw [← r1.length]; exact Nat.eq_of_beq_eq_true e2, ρ, e, m, ds, sr, rm, r1, h'⟩
  | _ => exact h.elim
theorem ms_asg (ha : PE X a (I S W ca)) (hg : PG X tg (IG S W g)) (hs : swapsWithSole [tg] a pos.line X.env = pure false := by rfl) (hw : swappedStores [tg] a X.env = pure none := by rfl) (h1 : (assignEach [tg] X.env).map (·.2) = [assign tg X.env] := by rfl)
    (hng : ∀ d e m, (∃ e1 m1, g d e m = .nx e1 m1) ∨ (∃ x m1, g d e m = .err x m1) ∨ g d e m = .bad) : PS X (.Assign [tg] a pos) (IS S W (sAsg ca g)) := PS.mono (ps_asg ha hg hs hw h1) fun Z σ H ⟨ρ, e, m, sr, rm, h⟩ =>
  (I.toS (c := ca) sr rm h).mono fun v H1 ⟨ρ1, d, m1, N, h1⟩ => by
    refine ⟨ρ1, e, m1, d, N.sr, N.rm, N.rel, ?_⟩
    have h2 : PostS S W (g d e m1) ρ1 H1 Z := h1
    rcases hng d e m1 with ⟨e1, m2, q⟩ | ⟨x, m2, q⟩ | q
    · rw [q] at h2 ⊢
      exact h2
    · rw [q] at h2 ⊢
      exact h2
    · rw [q] at h2 ⊢
      exact h2
/-- a target goes on, or fails -/
def Goes' (g : Tg) : Prop := ∀ d e m, (∃ e1 m1, g d e m = .nx e1 m1) ∨ (∃ x m1, g d e m = .err x m1) ∨ g d e m = .bad
def GoesL (g : Tgs) : Prop := ∀ d e m, (∃ e1 m1, g d e m = .nx e1 m1) ∨ (∃ x m1, g d e m = .err x m1) ∨ g d e m = .bad
theorem goes_n (i : Nat) : Goes' (gN i) := fun d e m => .inl ⟨_, _, rfl⟩
theorem goes_nil : GoesL gsNil := fun ds e m => by
  cases ds with
  | nil => exact .inl ⟨_, _, rfl⟩
  | cons d t => exact .inr (.inr rfl)
theorem goes_cons {g : Tg} {r : Tgs} (h : Goes' g) (h' : GoesL r) : GoesL (gsCons g r) := fun ds e m => by
  cases ds with
  | nil => exact .inr (.inr rfl)
  | cons d t =>
    show (∃ e1 m1, (g d e m).bind (fun e1 m1 => r t e1 m1) = .nx e1 m1) ∨ (∃ x m1, (g d e m).bind (fun e1 m1 => r t e1 m1) = .err x m1) ∨ (g d e m).bind (fun e1 m1 => r t e1 m1) = .bad
    rcases h d e m with ⟨e1, m1, q⟩ | ⟨x, m1, q⟩ | q
    · rw [q]
      exact h' t e1 m1
    · rw [q]
      exact .inr (.inl ⟨_, _, rfl⟩)
    · rw [q]
      exact .inr (.inr rfl)
theorem goes_t {n : Nat} {r : Tgs} (h : GoesL r) : Goes' (gT n r) := fun d e m => by
  cases d with
  | tup ds =>
    show (∃ e1 m1, (match Nat.beq ds.length n with | true => r ds e m | false => .bad) = RS.nx e1 m1) ∨ (∃ x m1, (match Nat.beq ds.length n with | true => r ds e m | false => .bad) = RS.err x m1) ∨ (match Nat.beq ds.length n with | true => r ds e m | false => .bad) = RS.bad
    cases Nat.beq ds.length n with
    | true => exact h ds e m
    | false => exact .inr (.inr rfl)
  | _ => exact .inr (.inr rfl)
end

/-! ## while -/
def sWhile : Nat → Et → Sm → Sm
  | 0, _, _ => fun _ _ => .bad
  | f + 1, t, b => fun e m => (t e m).toS fun k m1 => match k with
    | true => (match b e m1 with
      | .nx e2 m2 => sWhile f t b e2 m2
      | .ct e2 m2 => sWhile f t b e2 m2
      | .bk e2 m2 => .nx e2 m2
      | r => r)
    | false => .nx e m1
section
variable {X : Cx} {S : Sg} {W : XK} {pos : Pos} {t : Expr} {body : List Stmt} {ta : Et} {cb : Sm} {k : Nat}
theorem ms_while (f : Nat) [c : Ok S W X k] (ht : PT X t (IT S W ta)) (hb : PSs X body (IS S W cb)) : PS X (.While t body [] pos) (IS S W (sWhile f ta cb)) := PS.mono (ps_while c.own ht hb) fun Z σ H h => by
  refine ⟨fun n σ H => IS S W (sWhile n ta cb) Z σ H, ⟨f, h⟩, ?_⟩
  intro n σ1 H1 ⟨ρ, e, m, sr, rm, h⟩
  cases n with
  | zero => exact h.elim
  | succ n =>
    refine (IT.toS (c := ta) sr rm h).mono fun v H2 ⟨ρ2, x, m2, N, h2⟩ => ?_
    rw [N.rel]
    cases x with
    | false => exact iteF (PostS.nxt h2 N.rm N.sr)
    | true =>
      refine iteT ⟨fun σ' H' => IS S W (sWhile n ta cb) Z σ' H', fun σ' H' q => ⟨n, Nat.lt_succ_self n, q⟩, ρ2, e, m2, N.sr, N.rm, ?_⟩
      have h3 : PostS S W (match cb e m2 with
        | .nx e2 m2 => sWhile n ta cb e2 m2
        | .ct e2 m2 => sWhile n ta cb e2 m2
        | .bk e2 m2 => .nx e2 m2
        | r => r) ρ2 H2 Z := h2
      revert h3
      cases cb e m2 with
      | nx e3 m3 => exact fun h3 ρ4 H4 σ4 y a b => ⟨ρ4, e3, m3, b, a, PostS.ext h3 y⟩
      | ct e3 m3 => exact fun h3 ρ4 H4 σ4 y a b => ⟨ρ4, e3, m3, b, a, PostS.ext h3 y⟩
      | bk e3 m3 => exact fun h3 => h3
      | rt d m3 => exact fun h3 => h3
      | err x m3 => exact fun h3 => h3
      | bad => exact fun h3 => h3
end
end Mi
end

section
set_option Elab.async false
set_option linter.all false
set_option maxRecDepth 100000
set_option autoImplicit false
set_option maxHeartbeats 1000000
namespace Mi
open PySem PySem.Spec PyProof.Rows L2

/-! ## What is walked -/
abbrev Itm := Nat → Mem → Option (Option D)
def ItAt (S : Sg) (J : It) (ρ : Rho) (H : Hp) (m : Mem) (i : Nat) : Option (Option D) → Prop
  | none => True
  | some none => J.stop i H
  | some (some d) => J.go i H ∧ ∀ x H', J.yld i H x H' → RM S ρ H' m ∧ Ext ρ H ρ H' ∧ RD S.K ρ H' d x
def ItOk (S : Sg) (ρ0 : Rho) (H0 : Hp) (J : It) (it : Itm) : Prop := ∀ ρ H m i, Ext ρ0 H0 ρ H → RM S ρ H m → ItAt S J ρ H m i (it i m)
abbrev Src := Lo → Mem → R (Nat × Itm)
def II (S : Sg) (W : XK) (c : Src) : TI := fun σ H Q => ∃ ρ e m, SR S ρ H σ e ∧ RM S ρ H m ∧ Post S (fun ρ H a J => ItOk S ρ H J a.2) W (c e m) ρ H Q
theorem PI.mono {X : Cx} {tg e : Expr} {t t' : TI} (h : PI X tg e t) (k : ∀ σ H Q, t' σ H Q → t σ H Q) : PI X tg e t' := ⟨fun pins s σ H Q I q => h.run pins s σ H Q I (k _ _ _ q)⟩
theorem II.mono {S : Sg} {W : XK} {c : Src} {σ : L2.St} {H : Hp} {Q Q' : It → Hp → Prop} (h : II S W c σ H Q) (k : ∀ v H', Q v H' → Q' v H') : II S W c σ H Q' :=
  let ⟨ρ, e, m, sr, rm, q⟩ := h; ⟨ρ, e, m, sr, rm, q.mono k⟩
def itLst (n : Nat) : Itm := fun i m => (lstOf m n).map fun xs => xs[i]?
def itTup (xs : List D) : Itm := fun i _ => some xs[i]?
def itRng (lo : Int) (n : Nat) : Itm := fun i _ => some (match Nat.blt i n with | true => some (.int (lo + i)) | false => none)
def itEnum (n : Nat) : Itm := fun i m => (lstOf m n).map fun xs => xs[i]?.map fun d => .tup [.int i, d]
def zipAt (xs ys : List D) (i : Nat) : Option D := xs[i]?.bind fun x => ys[i]?.map fun y => .tup [x, y]
def itZip (n k : Nat) : Itm := fun i m => match lstOf m n, lstOf m k with
  | some xs, some ys => some (zipAt xs ys i)
  | _, _ => none
theorem it_lst {S : Sg} {ρ0 : Rho} {H0 : Hp} {n : Nat} {a : Addr} (hr : ρ0 n = some a) : ItOk S ρ0 H0 (Itl S.K a) (itLst n) := by
  intro ρ H m i x rm
  unfold itLst
  cases e : lstOf m n with
  | none => trivial
  | some xs =>
    obtain ⟨a2, ys, h1, h2, h3⟩ := rm.lstOf e
    rw [x.map n a hr] at h1
    cases h1
    rw [Option.map_some]
    cases q : xs[i]? with
    | none => exact ⟨ys, h2, by rw [← h3.length]; exact List.getElem?_eq_none_iff.mp q⟩
    | some d =>
      obtain ⟨v, g1, g2⟩ := h3.get q
      refine ⟨⟨ys, v, h2, g1⟩, fun y H' ⟨e1, e2⟩ => ?_⟩
      have e3 := e2 ys h2
      rw [g1] at e3
      cases e3
      rw [e1]
      exact ⟨rm, Ext.refl, g2⟩
theorem it_tup {S : Sg} {ρ0 : Rho} {H0 : Hp} {xs : List D} {ys : List V} {a : Addr} (s : SqT S.K H0 a ys) (r : RDs S.K ρ0 H0 xs ys) : ItOk S ρ0 H0 (Itt S.K a) (itTup xs) := by
  intro ρ H m i x rm
  unfold itTup
  have h2 := x.seqT s
  have h3 := r.ext x
  cases q : xs[i]? with
  | none => exact ⟨ys, h2, by rw [← h3.length]; exact List.getElem?_eq_none_iff.mp q⟩
  | some d =>
    obtain ⟨v, g1, g2⟩ := h3.get q
    refine ⟨⟨ys, v, h2, g1⟩, fun y H' ⟨e1, e2⟩ => ?_⟩
    have e3 := e2 ys h2
    rw [g1] at e3
    cases e3
    rw [e1]
    exact ⟨rm, Ext.refl, g2⟩
theorem it_rng {S : Sg} {ρ0 : Rho} {H0 : Hp} {lo : Int} {n : Nat} : ItOk S ρ0 H0 (Itr lo n) (itRng lo n) := by
  intro ρ H m i x rm
  unfold itRng
  cases q : Nat.blt i n with
  | false =>
    show n ≤ i
    have : ¬ (Nat.blt i n = true) := by rw [q]; exact Bool.false_ne_true
    rw [Nat.blt_eq] at this
    omega
  | true =>
    have hi : i < n := by rw [← Nat.blt_eq]; exact q
    refine ⟨hi, fun y H' ⟨e1, e2⟩ => ?_⟩
    rw [e1, e2]
    exact ⟨rm, Ext.refl, RD.int⟩
theorem it_enum {S : Sg} {ρ0 : Rho} {H0 : Hp} {n : Nat} {a : Addr} (hr : ρ0 n = some a) : ItOk S ρ0 H0 (Ite S.K a) (itEnum n) := by
  intro ρ H m i x rm
  unfold itEnum
  cases e : lstOf m n with
  | none => trivial
  | some xs =>
    obtain ⟨a2, ys, h1, h2, h3⟩ := rm.lstOf e
    rw [x.map n a hr] at h1
    cases h1
    rw [Option.map_some]
    cases q : xs[i]? with
    | none => exact ⟨ys, h2, by rw [← h3.length]; exact List.getElem?_eq_none_iff.mp q⟩
    | some d =>
      obtain ⟨v, g1, g2⟩ := h3.get q
      refine ⟨⟨ys, v, h2, g1⟩, fun y H' ⟨T, z, e1, e2, e3, e4⟩ => ?_⟩
      have e5 := e4 ys h2
      rw [g1] at e5
      cases e5
      rw [e1, e3]
      exact ⟨rm.free e2, ext_upd (none_fix e2), RD.tup' (SqT.of upd_same) (RDs.cons RD.int (RDs.cons (g2.ext (ext_upd (none_fix e2))) RDs.nil))⟩
theorem it_zip {S : Sg} {ρ0 : Rho} {H0 : Hp} {n k : Nat} {a b : Addr} (hr : ρ0 n = some a) (hs : ρ0 k = some b) : ItOk S ρ0 H0 (Itz S.K a b) (itZip n k) := by
  intro ρ H m i x rm
  unfold itZip
  cases e : lstOf m n with
  | none => trivial
  | some xs =>
    cases e' : lstOf m k with
    | none => trivial
    | some zs =>
      obtain ⟨a2, ys, h1, h2, h3⟩ := rm.lstOf e
      rw [x.map n a hr] at h1
      cases h1
      obtain ⟨b2, us, f1, f2, f3⟩ := rm.lstOf e'
      rw [x.map k b hs] at f1
      cases f1
      show ItAt S (Itz S.K a b) ρ H m i (some (zipAt xs zs i))
      unfold zipAt
      cases q : xs[i]? with
      | none => exact ⟨ys, us, h2, f2, .inl (by rw [← h3.length]; exact List.getElem?_eq_none_iff.mp q)⟩
      | some d =>
        rw [Option.bind_some]
        cases q' : zs[i]? with
        | none => exact ⟨ys, us, h2, f2, .inr (by rw [← f3.length]; exact List.getElem?_eq_none_iff.mp q')⟩
        | some d' =>
          obtain ⟨v, g1, g2⟩ := h3.get q
          obtain ⟨u, k1, k2⟩ := f3.get q'
          refine ⟨⟨ys, us, v, u, h2, f2, g1, k1⟩, fun y H' ⟨T, z, z', e1, e2, e3, e4, e6⟩ => ?_⟩
          have e5 := e4 ys h2
          rw [g1] at e5
          cases e5
          have e7 := e6 us f2
          rw [k1] at e7
          cases e7
          rw [e1, e3]
          exact ⟨rm.free e2, ext_upd (none_fix e2), RD.tup' (SqT.of upd_same) (RDs.cons (g2.ext (ext_upd (none_fix e2))) (RDs.cons (k2.ext (ext_upd (none_fix e2))) RDs.nil))⟩
/-- a list or a tuple -/
def srcSeq (a : E) : Src := fun e m => (a e m).bind fun x m1 => match x with
  | .tup xs => .ok (xs.length + 1, itTup xs) m1
  | .ref n => (match lstOf m1 n with
    | some xs => .ok (xs.length + 1, itLst n) m1
    | none => .bad)
  | _ => .bad
def srcList (a : E) : Src := fun e m => (a e m).bind fun x m1 => match x with
  | .ref n => (match lstOf m1 n with
    | some xs => .ok (xs.length + 1, itLst n) m1
    | none => .bad)
  | _ => .bad
def srcTup (a : E) : Src := fun e m => (a e m).bind fun x m1 => match x with
  | .tup xs => .ok (xs.length + 1, itTup xs) m1
  | _ => .bad
def srcEnum (c : Es) : Src := fun e m => (c e m).bind fun ds m1 => match ds with
  | [.ref n] => (match lstOf m1 n with
    | some xs => .ok (xs.length + 1, itEnum n) m1
    | none => .bad)
  | _ => .bad
def srcZip (c : Es) : Src := fun e m => (c e m).bind fun ds m2 => match ds with
  | [.ref n, .ref k] => (match lstOf m2 n, lstOf m2 k with
    | some xs, some _ => .ok (xs.length + 1, itZip n k) m2
    | _, _ => .bad)
  | _ => .bad
def rngOk (i : Int) : Bool := decide (-(2 ^ 62) ≤ i) && decide (i < 2 ^ 62)
def srcRng1 (c : Es) : Src := fun e m => (c e m).bind fun ds m1 => match ds with
  | [.int j] => (match rngOk j with
    | true => .ok (j.toNat + 1, itRng 0 j.toNat) m1
    | false => .bad)
  | _ => .bad
def srcRng2 (c : Es) : Src := fun e m => (c e m).bind fun ds m2 => match ds with
  | [.int i, .int j] => (match rngOk i && rngOk j with
    | true => .ok ((j - i).toNat + 1, itRng i (j - i).toNat) m2
    | false => .bad)
  | _ => .bad
section
variable {X : Cx} {S : Sg} {W : XK} {pos p : Pos} {tg a b : Expr} {ca cb : E} {k : Nat}
theorem mi_list [c : Ok S W X k] (ha : PE X a (I S W ca)) : PI X tg a (II S W (srcList ca)) := by
  have eK := c.K
  refine PI.mono (pi_list ha) fun σ H Q ⟨ρ, e, m, sr, rm, h⟩ => ?_
  rw [eK]
  refine (I.step (c := ca) sr rm h).mono fun v H1 ⟨ρ1, d, m1, N, h1⟩ => ?_
  cases d with
  | ref n =>
    obtain ⟨ad, e1, hr⟩ := RD.of_ref N.rel
    have h2 : Post S (fun ρ H (a : Nat × Itm) J => ItOk S ρ H J a.2) W (match lstOf m1 n with | some xs => .ok (xs.length + 1, itLst n) m1 | none => .bad) ρ1 H1 Q := h1
    cases q : lstOf m1 n with
    | none =>
      rw [q] at h2
      exact h2.elim
    | some xs =>
      rw [q] at h2
      obtain ⟨a2, ys, g1, g2, g3⟩ := N.rm.lstOf q
      rw [hr] at g1
      cases g1
      exact ⟨ad, e1, ⟨ys, g2⟩, Post.here h2 N.rm (it_lst hr)⟩
  | _ => exact h1.elim
theorem mi_tup [c : Ok S W X k] (ha : PE X a (I S W ca)) : PI X tg a (II S W (srcTup ca)) := by
  have eK := c.K
  refine PI.mono (pi_tup ha) fun σ H Q ⟨ρ, e, m, sr, rm, h⟩ => ?_
  rw [eK]
  refine (I.step (c := ca) sr rm h).mono fun v H1 ⟨ρ1, d, m1, N, h1⟩ => ?_
  cases d with
  | tup xs =>
    obtain ⟨ad, ys, e1, s1, r1⟩ := RD.of_tup N.rel
    exact ⟨ad, e1, ⟨ys, s1⟩, Post.here (show Post S (fun ρ H (a : Nat × Itm) J => ItOk S ρ H J a.2) W (.ok (xs.length + 1, itTup xs) m1) ρ1 H1 Q from h1) N.rm (it_tup s1 r1)⟩
  | _ => exact h1.elim
theorem one_of {K : PySem.W.Frag} {ρ : Rho} {H : Hp} {d : D} {vs : List V} (r : RDs K ρ H [d] vs) : ∃ v, vs = [v] ∧ RD K ρ H d v := by
  obtain ⟨v, t, e, r1, r2⟩ := r.of_cons
  exact ⟨v, by rw [e, r2.of_nil], r1⟩
theorem two_of {K : PySem.W.Frag} {ρ : Rho} {H : Hp} {d d' : D} {vs : List V} (r : RDs K ρ H [d, d'] vs) : ∃ v u, vs = [v, u] ∧ RD K ρ H d v ∧ RD K ρ H d' u := by
  obtain ⟨v, t, e, r1, r2⟩ := r.of_cons
  obtain ⟨u, e2, r3⟩ := one_of r2
  exact ⟨v, u, by rw [e, e2], r1, r3⟩
abbrev RelI (S : Sg) : Rho → Hp → Nat × Itm → It → Prop := fun ρ H a J => ItOk S ρ H J a.2
theorem rngOk_of {i : Int} (h : rngOk i = true) : -(2 ^ 62) ≤ i ∧ i < 2 ^ 62 := by
  unfold rngOk at h
  rw [Bool.and_eq_true] at h
  exact ⟨of_decide_eq_true h.1, of_decide_eq_true h.2⟩
variable {cs : Es}
theorem mi_enum [c : Ok S W X k] {elts : List Expr} {kk : Nat} {tpos : Pos} (hg : Gl X "enumerate") (hm : X.mg "enumerate" = none) (ha : PA X [a] (IA S W cs)) (hs : starEach [a] X.env = [(false, eval a X.env)] := by rfl) :
    PI X (.Tuple elts kk tpos) (.Call (.Name "enumerate" p) [a] [] pos) (II S W (srcEnum cs)) := by
  have eK := c.K
  refine PI.mono (pi_enum hg hm ha hs) fun σ H Q ⟨ρ, e, m, sr, rm, h⟩ => ?_
  rw [eK]
  refine (IA.step (c := cs) sr rm h).mono fun v H1 ⟨ρ1, ds, m1, N, h1⟩ => ?_
  match ds, N, h1 with
  | [.ref n], N, h1 =>
    obtain ⟨v1, ev, r1⟩ := one_of N.rel
    obtain ⟨ad, e1, hr⟩ := RD.of_ref r1
    have h2 : Post S (RelI S) W (match lstOf m1 n with | some xs => .ok (xs.length + 1, itEnum n) m1 | none => .bad) ρ1 H1 Q := h1
    cases q : lstOf m1 n with
    | none =>
      rw [q] at h2
      exact h2.elim
    | some xs =>
      rw [q] at h2
      obtain ⟨a2, ys, g1, g2, g3⟩ := N.rm.lstOf q
      rw [hr] at g1
      cases g1
      exact ⟨ad, ys, by rw [ev, e1], g2, Post.here h2 N.rm (it_enum hr)⟩
  | [], N, h1 => exact h1.elim
  | [.non], N, h1 => exact h1.elim
  | [.bl _], N, h1 => exact h1.elim
  | [.int _], N, h1 => exact h1.elim
  | [.str _], N, h1 => exact h1.elim
  | [.tup _], N, h1 => exact h1.elim
  | a :: _ :: _, N, h1 => cases a <;> exact h1.elim
theorem mi_rng1 (hg : Gl X "range") (hm : X.mg "range" = none) (ha : PA X [a] (IA S W cs)) (hs : starEach [a] X.env = [(false, eval a X.env)] := by rfl) : PI X tg (.Call (.Name "range" p) [a] [] pos) (II S W (srcRng1 cs)) := by
  refine PI.mono (pi_range1 hg hm ha hs) fun σ H Q ⟨ρ, e, m, sr, rm, h⟩ => ?_
  refine (IA.step (c := cs) sr rm h).mono fun v H1 ⟨ρ1, ds, m1, N, h1⟩ => ?_
  match ds, N, h1 with
  | [.int j], N, h1 =>
    obtain ⟨v1, ev, r1⟩ := one_of N.rel
    have h2 : Post S (RelI S) W (match rngOk j with | true => .ok (j.toNat + 1, itRng 0 j.toNat) m1 | false => .bad) ρ1 H1 Q := h1
    cases q : rngOk j with
    | false =>
      rw [q] at h2
      exact h2.elim
    | true =>
      rw [q] at h2
      obtain ⟨q1, q2⟩ := rngOk_of q
      exact ⟨j, by rw [ev, RD.of_int r1], q1, q2, Post.here h2 N.rm it_rng⟩
  | [], N, h1 => exact h1.elim
  | [.non], N, h1 => exact h1.elim
  | [.bl _], N, h1 => exact h1.elim
  | [.str _], N, h1 => exact h1.elim
  | [.tup _], N, h1 => exact h1.elim
  | [.ref _], N, h1 => exact h1.elim
  | a :: _ :: _, N, h1 => cases a <;> exact h1.elim
theorem srcRng2_bad {ds : List D} {m : Mem} {ρ : Rho} {H : Hp} {Q : It → Hp → Prop} (h : Post S (RelI S) W (match ds with
  | [.int i, .int j] => (match rngOk i && rngOk j with
    | true => .ok ((j - i).toNat + 1, itRng i (j - i).toNat) m
    | false => .bad)
  | _ => .bad) ρ H Q) : ∃ i j, ds = [.int i, .int j] ∧ rngOk i = true ∧ rngOk j = true ∧ Post S (RelI S) W (.ok ((j - i).toNat + 1, itRng i (j - i).toNat) m) ρ H Q := by
  split at h
  · rename_i i j
    split at h
    · rename_i q
      rw [Bool.and_eq_true] at q
      exact ⟨i, j, rfl, q.1, q.2, h⟩
    · exact h.elim
  · exact h.elim
theorem mi_rng2 (hg : Gl X "range") (hm : X.mg "range" = none) (ha : PA X [a, b] (IA S W cs)) (hs : starEach [a, b] X.env = [(false, eval a X.env), (false, eval b X.env)] := by rfl) (hs2 : starEach [b] X.env = [(false, eval b X.env)] := by rfl) :
    PI X tg (.Call (.Name "range" p) [a, b] [] pos) (II S W (srcRng2 cs)) := by
  refine PI.mono (pi_range2 hg hm ha hs hs2) fun σ H Q ⟨ρ, e, m, sr, rm, h⟩ => ?_
  refine (IA.step (c := cs) sr rm h).mono fun v H1 ⟨ρ1, ds, m1, N, h1⟩ => ?_
  obtain ⟨i, j, ed, q1, q2, h2⟩ := srcRng2_bad h1
  have r := N.rel
  rw [ed] at r
  obtain ⟨v1, v2, ev, r1, r2⟩ := two_of r
  obtain ⟨q3, q4⟩ := rngOk_of q1
  obtain ⟨q5, q6⟩ := rngOk_of q2
  exact ⟨i, j, by rw [ev, RD.of_int r1, RD.of_int r2], ⟨q3, q4, q5, q6⟩, Post.here h2 N.rm it_rng⟩
theorem srcZip_bad {ds : List D} {m : Mem} {ρ : Rho} {H : Hp} {Q : It → Hp → Prop} (h : Post S (RelI S) W (match ds with
  | [.ref n, .ref k] => (match lstOf m n, lstOf m k with
    | some xs, some _ => .ok (xs.length + 1, itZip n k) m
    | _, _ => .bad)
  | _ => .bad) ρ H Q) : ∃ n k xs ys, ds = [.ref n, .ref k] ∧ lstOf m n = some xs ∧ lstOf m k = some ys ∧ Post S (RelI S) W (.ok (xs.length + 1, itZip n k) m) ρ H Q := by
  split at h
  · rename_i n k
    split at h
    · rename_i xs ys q1 q2
      exact ⟨n, k, xs, ys, rfl, q1, q2, h⟩
    · exact h.elim
  · exact h.elim
theorem mi_zip [c : Ok S W X k] {elts : List Expr} {kk : Nat} {tpos : Pos} (hg : Gl X "zip") (hm : X.mg "zip" = none) (ha : PA X [a, b] (IA S W cs)) (hs : starEach [a, b] X.env = (false, eval a X.env) :: starEach [b] X.env := by rfl) (hpl : (backTo pos (starEach [b] X.env)).any (·.1) = false := by rfl) :
    PI X (.Tuple elts kk tpos) (.Call (.Name "zip" p) [a, b] [] pos) (II S W (srcZip cs)) := by
  have eK := c.K
  refine PI.mono (pi_zip hg hm ha hs hpl) fun σ H Q ⟨ρ, e, m, sr, rm, h⟩ => ?_
  rw [eK]
  refine (IA.step (c := cs) sr rm h).mono fun v H1 ⟨ρ1, ds, m1, N, h1⟩ => ?_
  obtain ⟨n, j, xs, ys, ed, q1, q2, h2⟩ := srcZip_bad h1
  have r := N.rel
  rw [ed] at r
  obtain ⟨v1, v2, ev, r1, r2⟩ := two_of r
  obtain ⟨ad, e1, hr⟩ := RD.of_ref r1
  obtain ⟨bd, e2, hr2⟩ := RD.of_ref r2
  obtain ⟨a2, us, g1, g2, g3⟩ := N.rm.lstOf q1
  rw [hr] at g1
  cases g1
  obtain ⟨b2, ws, f1, f2, f3⟩ := N.rm.lstOf q2
  rw [hr2] at f1
  cases f1
  exact ⟨ad, bd, us, ws, by rw [ev, e1, e2], g2, f2, Post.here h2 N.rm (it_zip hr hr2)⟩
end

/-! ## for -/
def sForL : Nat → Nat → Itm → Tg → Sm → Sm
  | 0, _, _, _, _ => fun _ _ => .bad
  | f + 1, i, it, g, b => fun e m => match it i m with
    | none => .bad
    | some none => .nx e m
    | some (some d) => (match g d e m with
      | .nx e1 m1 => (match b e1 m1 with
        | .nx e2 m2 => sForL f (i + 1) it g b e2 m2
        | .ct e2 m2 => sForL f (i + 1) it g b e2 m2
        | .bk e2 m2 => .nx e2 m2
        | r => r)
      | .err x m1 => .err x m1
      | _ => .bad)
def sFor (s : Src) (g : Tg) (b : Sm) : Sm := fun e m => (s e m).toS fun fi m1 => sForL fi.1 0 fi.2 g b e m1
section
variable {X : Cx} {S : Sg} {W : XK} {pos : Pos} {tg iter : Expr} {body : List Stmt} {cs : Src} {g : Tg} {cb : Sm} {k : Nat}
theorem ms_for [c : Ok S W X k] (hi : PI X tg iter (II S W cs)) (hg : PG X tg (IG S W g)) (hb : PSs X body (IS S W cb)) (hs : ∀ x, foldedSetIterable iter X.env x = pure x := by intro _; rfl) :
    PS X (.For tg iter body [] pos) (IS S W (sFor cs g cb)) := PS.mono (ps_for c.own c.calm hi hg hb hs) fun Z σ H ⟨ρ, e, m, sr, rm, h⟩ => by
  refine ⟨ρ, e, m, sr, rm, ?_⟩
  refine Post.mono (Post.toS (Rel := fun ρ H (a : Nat × Itm) J => ItOk S ρ H J a.2) sr h) fun J H1 ⟨ρ1, fi, m1, N, h1⟩ => ?_
  obtain ⟨f, it⟩ := fi
  have hJ : ItOk S ρ1 H1 J it := N.rel
  refine ⟨fun i n σ H => ∃ ρ e m, Ext ρ1 H1 ρ H ∧ SR S ρ H σ e ∧ RM S ρ H m ∧ PostS S W (sForL n i it g cb e m) ρ H Z, ⟨f, ρ1, e, m1, Ext.refl, N.sr, N.rm, h1⟩, ?_⟩
  intro i n σ2 H2 ⟨ρ2, e2, m2, x2, sr2, rm2, h2⟩
  cases n with
  | zero => exact h2.elim
  | succ n =>
    have hj := hJ ρ2 H2 m2 i x2 rm2
    have h3 : PostS S W (match it i m2 with
      | none => .bad
      | some none => .nx e2 m2
      | some (some d) => (match g d e2 m2 with
        | .nx e1 m1 => (match cb e1 m1 with
          | .nx e2 m2 => sForL n (i + 1) it g cb e2 m2
          | .ct e2 m2 => sForL n (i + 1) it g cb e2 m2
          | .bk e2 m2 => .nx e2 m2
          | r => r)
        | .err x m1 => .err x m1
        | _ => .bad)) ρ2 H2 Z := h2
    cases q : it i m2 with
    | none =>
      rw [q] at h3
      exact h3.elim
    | some o =>
      rw [q] at h3 hj
      cases o with
      | none => exact .inl ⟨hj, PostS.nxt h3 rm2 sr2⟩
      | some d =>
        obtain ⟨hgo, hy⟩ := hj
        refine .inr ⟨hgo, fun σ' H' => ∃ ρ e m, Ext ρ1 H1 ρ H' ∧ SR S ρ H' σ' e ∧ RM S ρ H' m ∧ PostS S W (sForL n (i + 1) it g cb e m) ρ H' Z, fun σ' H' z => ⟨n, Nat.lt_succ_self n, z⟩, fun x H' hyl => ?_⟩
        obtain ⟨r1, x3, r3⟩ := hy x H' hyl
        refine ⟨ρ2, e2, m2, d, sr2.ext x3, r1, r3, ?_⟩
        have h4 := PostS.ext h3 x3
        have x13 := x2.trans x3
        revert h4
        show PostS S W (match g d e2 m2 with
        | .nx e1 m1 => (match cb e1 m1 with
          | .nx e2 m2 => sForL n (i + 1) it g cb e2 m2
          | .ct e2 m2 => sForL n (i + 1) it g cb e2 m2
          | .bk e2 m2 => .nx e2 m2
          | r => r)
        | .err x m1 => .err x m1
        | _ => .bad) ρ2 H' Z → _
        cases g d e2 m2 with
        | nx e4 m4 =>
          intro h4 ρ5 H5 σ5 x5 rm5 sr5
          refine ⟨ρ5, e4, m4, sr5, rm5, ?_⟩
          have h5 := PostS.ext h4 x5
          have x15 := x13.trans x5
          revert h5
          show PostS S W (match cb e4 m4 with
          | .nx e2 m2 => sForL n (i + 1) it g cb e2 m2
          | .ct e2 m2 => sForL n (i + 1) it g cb e2 m2
          | .bk e2 m2 => .nx e2 m2
          | r => r) ρ5 H5 Z → _
          cases cb e4 m4 with
          | nx e6 m6 => exact fun h5 ρ7 H7 σ7 x7 a b => ⟨ρ7, e6, m6, x15.trans x7, b, a, PostS.ext h5 x7⟩
          | ct e6 m6 => exact fun h5 ρ7 H7 σ7 x7 a b => ⟨ρ7, e6, m6, x15.trans x7, b, a, PostS.ext h5 x7⟩
          | bk e6 m6 => exact fun h5 => h5
          | rt d m6 => exact fun h5 => h5
          | err x m6 => exact fun h5 => h5
          | bad => exact fun h5 => h5
        | err x m4 => exact fun h4 => h4
        | rt d m4 => exact fun h4 => h4.elim
        | bk e m4 => exact fun h4 => h4.elim
        | ct e m4 => exact fun h4 => h4.elim
        | bad => exact fun h4 => h4.elim
end
end Mi
end

section
set_option Elab.async false
set_option linter.all false
set_option maxRecDepth 100000
set_option autoImplicit false
set_option maxHeartbeats 1000000
namespace Mi
open PySem PySem.Spec PyProof.Rows L2

/-! ## Targets of a comprehension -/
inductive Tgt where
  | one (i : Nat)
  | tup (is : List Nat)
def setN : List Nat → List D → Lo → Option Lo
  | [], [], e => some e
  | i :: is, d :: ds, e => setN is ds (e.set i (some d))
  | _, _, _ => none
def setT : Tgt → D → Lo → Option Lo
  | .one i, d, e => some (e.set i (some d))
  | .tup is, d, e => match d with
    | .tup ds => setN is ds e
    | _ => none
def wipeL (e : Lo) : List Nat → Lo
  | [] => e
  | v :: vs => (wipeL e vs).set v none
def gNs : List Nat → TGs
  | [] => gNil
  | i :: is => gCons (gName i) (gNs is)
def gOf (K : PySem.W.Frag) : Tgt → TG
  | .one i => gName i
  | .tup is => gTup K is.length (gNs is)
def Tgt.slots : Tgt → List Nat
  | .one i => [i]
  | .tup is => is
section
variable {S : Sg} {ρ : Rho} {H : Hp}
theorem SR.wipe {σ : L2.St} {e : Lo} (h : SR S ρ H σ e) : ∀ vs : List Nat, SR S ρ H (wipe σ vs) (wipeL e vs)
  | [] => h
  | v :: vs => (SR.wipe h vs).clear v none
theorem wipe_get (σ : L2.St) (j : Nat) : ∀ vs : List Nat, (wipe σ vs)[j]? = if j ∈ vs ∧ j < σ.length then some none else σ[j]?
  | [] => by
    rw [if_neg (fun z => nomatch z.1)]
    rfl
  | v :: vs => by
    show ((wipe σ vs).set v none)[j]? = _
    by_cases hv : v = j
    · subst hv
      by_cases hl : v < σ.length
      · rw [List.getElem?_set_self (by rw [wipe_length]; exact hl), if_pos ⟨List.mem_cons_self, hl⟩]
      · rw [if_neg (fun z => hl z.2), List.getElem?_eq_none (by rw [List.length_set, wipe_length]; omega), List.getElem?_eq_none (by omega)]
    · rw [List.getElem?_set_ne hv, wipe_get σ j vs]
      by_cases hm : j ∈ vs ∧ j < σ.length
      · rw [if_pos hm, if_pos ⟨List.mem_cons_of_mem _ hm.1, hm.2⟩]
      · rw [if_neg hm, if_neg fun z => hm ⟨(List.mem_cons.mp z.1).resolve_left (Ne.symm hv), z.2⟩]
/-- a store into a slot that is wiped is nothing -/
theorem wipe_set {σ τ : L2.St} {vs : List Nat} {i : Nat} {x : Option V} (hi : i ∈ vs) (h : wipe σ vs = wipe τ vs) : wipe (σ.set i x) vs = wipe τ vs := by
  rw [← h]
  apply List.ext_getElem?
  intro j
  rw [wipe_get, wipe_get, List.length_set]
  by_cases hj : i = j
  · subst hj
    by_cases hl : i < σ.length
    · rw [if_pos ⟨hi, hl⟩, if_pos ⟨hi, hl⟩]
    · rw [if_neg (fun z => hl z.2), if_neg (fun z => hl z.2), List.getElem?_eq_none (by rw [List.length_set]; omega), List.getElem?_eq_none (by omega)]
  · rw [List.getElem?_set_ne hj]
theorem wipe_wipe (σ : L2.St) (vs : List Nat) : wipe (wipe σ vs) vs = wipe σ vs := by
  apply List.ext_getElem?
  intro j
  rw [wipe_get, wipe_get, wipe_length]
  by_cases h : j ∈ vs ∧ j < σ.length
  · rw [if_pos h, if_pos h]
  · rw [if_neg h, if_neg h]
theorem setN_of {vs : List Nat} {τ : L2.St} : ∀ {is : List Nat} {ds : List D} {us : List V} {e e' : Lo} {σ : L2.St} {Q : L2.St → Hp → Prop}, setN is ds e = some e' → (∀ i ∈ is, i ∈ vs) → SR S ρ H σ e → RDs S.K ρ H ds us → wipe σ vs = wipe τ vs →
    (∀ σ', SR S ρ H σ' e' → wipe σ' vs = wipe τ vs → Q σ' H) → gNs is us σ H Q
  | [], [], us, e, e', σ, Q, h, hv, sr, r, hw, k => by
    cases h
    exact ⟨r.of_nil, k σ sr hw⟩
  | i :: is, d :: ds, us, e, e', σ, Q, h, hv, sr, r, hw, k => by
    obtain ⟨y, u, e1, r1, r2⟩ := r.of_cons
    exact ⟨y, u, e1, setN_of (is := is) h (fun j hj => hv j (List.mem_cons_of_mem _ hj)) (sr.set i r1) r2 (wipe_set (hv i List.mem_cons_self) hw) k⟩
  | [], _ :: _, _, _, _, _, _, h, _, _, _, _, _ => by cases h
  | _ :: _, [], _, _, _, _, _, h, _, _, _, _, _ => by cases h
theorem setN_len : ∀ {is : List Nat} {ds : List D} {e e' : Lo}, setN is ds e = some e' → ds.length = is.length
  | [], [], _, _, _ => rfl
  | _ :: is, _ :: ds, _, _, h => by rw [List.length_cons, List.length_cons, setN_len (is := is) h]
  | [], _ :: _, _, _, h => by cases h
  | _ :: _, [], _, _, h => by cases h
theorem setT_of {tg : Tgt} {d : D} {v : V} {e e' : Lo} {σ τ : L2.St} {vs : List Nat} {Q : L2.St → Hp → Prop} (h : setT tg d e = some e') (hv : ∀ i ∈ tg.slots, i ∈ vs) (sr : SR S ρ H σ e) (r : RD S.K ρ H d v) (hw : wipe σ vs = wipe τ vs)
    (k : ∀ σ', SR S ρ H σ' e' → wipe σ' vs = wipe τ vs → Q σ' H) : gOf S.K tg v σ H Q := by
  cases tg with
  | one i =>
    cases h
    exact k _ (sr.set i r) (wipe_set (hv i (List.mem_cons_self ..)) hw)
  | tup is =>
    cases d with
    | tup ds =>
      obtain ⟨a, ys, e1, s1, r1⟩ := RD.of_tup r
      have h' : setN is ds e = some e' := h
      exact ⟨a, ys, e1, s1, by rw [← r1.length]; exact setN_len h', setN_of h' hv sr r1 hw k⟩
    | _ => cases h
end

/-! ## [elt for target in source if test] -/
/-- in a comprehension nothing is raised -/
def noErr {α : Type} (r : R α) : R α := match r with
  | .err _ _ => .bad
  | r => r
def tYesM : Et := fun _ m => .ok true m
def eLCl : Nat → Nat → Nat → Itm → Tgt → Et → E → Lo → Mem → R D
  | 0, _, _, _, _, _, _ => fun _ _ => .bad
  | f + 1, n, i, it, tg, tt, el => fun e m => match it i m with
    | none => .bad
    | some none => .ok (.ref n) m
    | some (some d) => (match setT tg d e with
      | none => .bad
      | some e1 => (noErr (tt e1 m)).bind fun k m1 => match k with
        | false => eLCl f n (i + 1) it tg tt el e m1
        | true => (noErr (el e1 m1)).bind fun y m2 => match m2.get n with
          | some (.lst acc) => (match lineOk (acc.length + 1) with
            | true => eLCl f n (i + 1) it tg tt el e (m2.set n (.lst (acc ++ [y])))
            | false => .bad)
          | _ => .bad)
def eLC (s : Src) (tg : Tgt) (tt : Et) (el : E) (vs : List Nat) : E := fun e m => (s e m).bind fun fi m1 => eLCl fi.1 m1.next 0 fi.2 tg tt el (wipeL e vs) (m1.new (.lst []))
abbrev Eno : XK := fun _ _ _ => False
theorem passNo {P : Program} {w : World} {X : Cx} : Passes (L2.CX P w) X Eno := fun pins σ H s e s' I h => by
  unfold L2.CX at h
  first
    | exact h.elim
    | (obtain ⟨_, h⟩ := h; exact h.elim)
    | (simp only [and_false, exists_false] at h)
theorem noErr_bind {S : Sg} {W : XK} {α β γ δ : Type} {Rel : Rho → Hp → α → β → Prop} {Rel2 : Rho → Hp → γ → δ → Prop} {r : R α} {f : α → Mem → R γ} {Q : δ → Hp → Prop} {ρ : Rho} {H : Hp} {σ : L2.St} {e : Lo} (sr : SR S ρ H σ e) (h : Post S Rel2 W ((noErr r).bind f) ρ H Q) :
    Post S Rel Eno r ρ H fun b H' => ∃ ρ' a m', Now S Rel ρ H σ e a m' b ρ' H' ∧ Post S Rel2 W (f a m') ρ' H' Q := by
  cases r with
  | ok a m => exact fun ρ' H' b x r1 r2 => ⟨ρ', a, m, ⟨x, r1, r2, sr.ext x⟩, Post.ext (show Post S Rel2 W (f a m) ρ H Q from h) x⟩
  | err y m => exact h.elim
  | bad => exact h
instance okBlk {S : Sg} {W : XK} {X : Cx} {k : Nat} [c : Ok S W X k] {s : Shared} {H : Hp} {scope : Scope} {cenv : Env} {fp : List Addr} : Ok S Eno (X.blk s H scope cenv fp) k :=
  ⟨c.K, passNo, PassesOwn.never, c.calm, c.room, c.inj⟩
theorem me_yes {X : Cx} {S : Sg} : PTs X [] (IT S Eno tYesM) := ⟨fun pins s σ H Q I h => by
  refine pts_nil.run pins s σ H Q I ?_
  obtain ⟨ρ, e, m, sr, rm, h⟩ := h
  exact Post.here h rm rfl⟩
section
variable {X : Cx} {S : Sg} {W : XK} {k : Nat}
theorem lc_mono {cs : Src} {tg : Tgt} {tt : Et} {el : E} {vs : List Nat} (hsl : ∀ i ∈ tg.slots, i ∈ vs) {σ : L2.St} {H : Hp} {Q : VK} (h : I S W (eLC cs tg tt el vs) σ H Q) :
    tLc (II S W cs) (gOf S.K tg) (IT S Eno tt) (I S Eno el) vs σ H Q := by
  obtain ⟨ρ, e, m, sr, rm, h⟩ := h
  refine ⟨ρ, e, m, sr, rm, ?_⟩
  refine Post.mono (Post.bind (Rel := RelI S) sr h) fun J H1 ⟨ρ1, fi, m1, N, h1⟩ => ?_
  obtain ⟨f, it⟩ := fi
  have hJ : ItOk S ρ1 H1 J it := N.rel
  intro D hD
  have x0 : Ext ρ1 H1 (rnew ρ1 m1 D) (upd H1 D (.lst [])) := N.rm.extNew hD
  have r0 : RM S (rnew ρ1 m1 D) (upd H1 D (.lst [])) (m1.new (.lst [])) := N.rm.new hD ⟨[], upd_same, RDs.nil⟩
  refine ⟨fun i n H => ∃ ρ m, Ext ρ1 H1 ρ H ∧ SR S ρ H (wipe σ vs) (wipeL e vs) ∧ RM S ρ H m ∧ ρ m1.next = some D ∧ PostV S W (eLCl n m1.next i it tg tt el (wipeL e vs) m) ρ H Q, ⟨f, _, _, x0, (N.sr.ext x0).wipe vs, r0, rnew_self _ _ _, Post.ext h1 x0⟩, ?_⟩
  intro i n H2 ⟨ρ2, m2, x2, sr2, rm2, hn, h2⟩
  cases n with
  | zero => exact h2.elim
  | succ n =>
    have hj := hJ ρ2 H2 m2 i x2 rm2
    have h3 : PostV S W (match it i m2 with
      | none => .bad
      | some none => .ok (.ref m1.next) m2
      | some (some d) => (match setT tg d (wipeL e vs) with
        | none => .bad
        | some e1 => (noErr (tt e1 m2)).bind fun k m1' => match k with
          | false => eLCl n m1.next (i + 1) it tg tt el (wipeL e vs) m1'
          | true => (noErr (el e1 m1')).bind fun y m2 => match m2.get m1.next with
            | some (.lst acc) => (match lineOk (acc.length + 1) with
              | true => eLCl n m1.next (i + 1) it tg tt el (wipeL e vs) (m2.set m1.next (.lst (acc ++ [y])))
              | false => .bad)
            | _ => .bad)) ρ2 H2 Q := h2
    cases q : it i m2 with
    | none =>
      rw [q] at h3
      exact h3.elim
    | some o =>
      rw [q] at h3 hj
      cases o with
      | none => exact .inl ⟨hj, Post.val h3 rm2 (RD.ref hn)⟩
      | some d =>
        obtain ⟨hgo, hy⟩ := hj
        refine .inr ⟨hgo, fun H' => ∃ ρ m, Ext ρ1 H1 ρ H' ∧ SR S ρ H' (wipe σ vs) (wipeL e vs) ∧ RM S ρ H' m ∧ ρ m1.next = some D ∧ PostV S W (eLCl n m1.next (i + 1) it tg tt el (wipeL e vs) m) ρ H' Q, fun H' z => ⟨n, Nat.lt_succ_self n, z⟩, fun x H' hyl => ?_⟩
        obtain ⟨r1, x3, r3⟩ := hy x H' hyl
        have h4 : PostV S W (match setT tg d (wipeL e vs) with
          | none => .bad
          | some e1 => (noErr (tt e1 m2)).bind fun k m1' => match k with
            | false => eLCl n m1.next (i + 1) it tg tt el (wipeL e vs) m1'
            | true => (noErr (el e1 m1')).bind fun y m2 => match m2.get m1.next with
              | some (.lst acc) => (match lineOk (acc.length + 1) with
                | true => eLCl n m1.next (i + 1) it tg tt el (wipeL e vs) (m2.set m1.next (.lst (acc ++ [y])))
                | false => .bad)
              | _ => .bad) ρ2 H' Q := Post.ext h3 x3
        have x13 := x2.trans x3
        cases q2 : setT tg d (wipeL e vs) with
        | none =>
          rw [q2] at h4
          exact h4.elim
        | some e1 =>
          rw [q2] at h4
          refine setT_of (τ := σ) q2 hsl (sr2.ext x3) r3 (wipe_wipe σ vs) fun σ4 sr4 hw => ⟨hw, ρ2, e1, m2, sr4, r1, ?_⟩
          refine Post.mono (noErr_bind (Rel := fun _ _ a b => b = a) sr4 h4) fun b H5 ⟨ρ5, bd, m5, N5, h5⟩ => ?_
          rw [N5.rel]
          cases bd with
          | false => exact iteF ⟨ρ5, m5, x13.trans N5.ext, (sr2.ext x3).ext N5.ext, N5.rm, N5.ext.map _ _ hn, h5⟩
          | true =>
            refine iteT ⟨ρ5, e1, m5, N5.sr, N5.rm, ?_⟩
            refine Post.mono (noErr_bind (Rel := RD S.K) N5.sr h5) fun y H6 ⟨ρ6, yd, m6, N6, h6⟩ => ?_
            have h7 : PostV S W (match m6.get m1.next with
              | some (.lst acc) => (match lineOk (acc.length + 1) with
                | true => eLCl n m1.next (i + 1) it tg tt el (wipeL e vs) (m6.set m1.next (.lst (acc ++ [yd])))
                | false => .bad)
              | _ => .bad) ρ6 H6 Q := h6
            have hn6 := N6.ext.map _ _ (N5.ext.map _ _ hn)
            cases q3 : m6.get m1.next with
            | none =>
              rw [q3] at h7
              exact h7.elim
            | some ob =>
              rw [q3] at h7
              cases ob with
              | lst acc =>
                have h8 : PostV S W (match lineOk (acc.length + 1) with
                  | true => eLCl n m1.next (i + 1) it tg tt el (wipeL e vs) (m6.set m1.next (.lst (acc ++ [yd])))
                  | false => .bad) ρ6 H6 Q := h7
                cases q4 : lineOk (acc.length + 1) with
                | false =>
                  rw [q4] at h8
                  exact h8.elim
                | true =>
                  rw [q4] at h8
                  obtain ⟨a2, ys, g1, g2, g3⟩ := N6.rm.lst q3
                  rw [hn6] at g1
                  cases g1
                  have hf : ∀ u, H6 D = some u → ¬ Fix u := fun u z => by
                    rw [g2] at z
                    cases z
                    exact fix_lst
                  have x7 : Ext ρ6 H6 ρ6 (upd H6 D (.lst (ys ++ [y]))) := ext_upd hf
                  refine ⟨ys, g2, ?_, ρ6, _, ((x13.trans N5.ext).trans N6.ext).trans x7, (((sr2.ext x3).ext N5.ext).ext N6.ext).ext x7, N6.rm.set (o := .lst (acc ++ [yd])) hn6 hf ⟨_, upd_same, (g3.ext x7).append (RDs.cons (N6.rel.ext x7) RDs.nil)⟩, hn6, Post.ext h8 x7⟩
                  rw [← g3.length]
                  have := lineOk_le q4
                  omega
              | _ => exact h7.elim
theorem me_lc [c : Ok S W X k] {elt tgt iter : Expr} {ifs : List Expr} {scope : Scope} {pos : Pos} {cs : Src} {tt : Et} {el : E} (own : List (Str × Nat)) (tg : Tgt) (hN : X.N.Nodup) (hi : PI X tgt iter (II S W cs)) (ok : BlkOk X.N X.env.scope scope own)
    (hg : ∀ (s : Shared) (H : Hp) (C : Addr) (cl : List (Str × Addr)) (fp : List Addr), PG (X.blk s H scope (compEnvC scope cl C X.env) fp) tgt (gOf S.K tg))
    (ht : ∀ (s : Shared) (H : Hp) (C : Addr) (cl : List (Str × Addr)) (fp : List Addr), PTs (X.blk s H scope (compEnvC scope cl C X.env) fp) ifs (IT S Eno tt))
    (he : ∀ (s : Shared) (H : Hp) (C : Addr) (cl : List (Str × Addr)) (fp : List Addr), PE (X.blk s H scope (compEnvC scope cl C X.env) fp) elt (I S Eno el)) (hsl : ∀ i ∈ tg.slots, i ∈ own.map (·.2) := by decide) (hs : ∀ x, foldedSetIterable iter X.env x = pure x := by intro _; rfl) :
    PE X (.ListComp elt [⟨tgt, iter, ifs, 0⟩] scope pos) (I S W (eLC cs tg tt el (own.map (·.2)))) :=
  (pe_lc c.calm hN hi ok hg ht he hs).mono fun _ _ _ => lc_mono hsl
theorem ms_setLc [c : Ok S W X k] (i : Nat) {y : Str} {py spos : Pos} {elt tgt iter : Expr} {ifs : List Expr} {scope : Scope} {pos : Pos} {cs : Src} {tt : Et} {el : E} (own : List (Str × Nat)) (tg : Tgt) (hN : X.N.Nodup) (hi : PI X tgt iter (II S W cs)) (ok : BlkOk X.N X.env.scope scope own)
    (hg : ∀ (s : Shared) (H : Hp) (C : Addr) (cl : List (Str × Addr)) (fp : List Addr), PG (X.blk s H scope (compEnvC scope cl C X.env) fp) tgt (gOf S.K tg))
    (ht : ∀ (s : Shared) (H : Hp) (C : Addr) (cl : List (Str × Addr)) (fp : List Addr), PTs (X.blk s H scope (compEnvC scope cl C X.env) fp) ifs (IT S Eno tt))
    (he : ∀ (s : Shared) (H : Hp) (C : Addr) (cl : List (Str × Addr)) (fp : List Addr), PE (X.blk s H scope (compEnvC scope cl C X.env) fp) elt (I S Eno el))
    (hy : X.N[i]? = some y := by rfl) (hyl : X.env.scope.names.lookup y = some .local := by rfl) (hsw : swapsWith (.ListComp elt [⟨tgt, iter, ifs, 0⟩] scope pos) (some (.Name y py)) spos.line X.env = pure true := by exact sw_true rfl rfl rfl (by decide +kernel))
    (hsl : ∀ i ∈ tg.slots, i ∈ own.map (·.2) := by decide) (hs : ∀ x, foldedSetIterable iter X.env x = pure x := by intro _; rfl) :
    PS X (.Assign [.Name y py] (.ListComp elt [⟨tgt, iter, ifs, 0⟩] scope pos) spos) (IS S W (sSet i (eLC cs tg tt el (own.map (·.2))))) :=
  PS.mono (ps_setLc c.calm hN hy hyl hsw hi ok hg ht he hs) fun Z σ H ⟨ρ, e, m, sr, rm, h⟩ => lc_mono hsl ((I.toS (c := eLC cs tg tt el (own.map (·.2))) sr rm h).mono fun v H1 ⟨ρ1, d, m1, N, h1⟩ => PostS.nxt h1 N.rm (N.sr.set i N.rel))
end
end Mi
end

section
set_option Elab.async false
set_option linter.all false
set_option maxRecDepth 100000
set_option autoImplicit false
set_option maxHeartbeats 1000000
namespace Mi
open PySem PySem.Spec PyProof.Rows L2

/-! ## o.f = e, o.f op= e, xs[i] = e -/
def putM (f : Nat) (d : D) : List (Nat × D) → List (Nat × D)
  | [] => [(f, d)]
  | (g, x) :: r => match Nat.beq g f with
    | true => (g, d) :: r
    | false => (g, x) :: putM f d r
section
variable {S : Sg} {ρ : Rho} {H : Hp}
theorem putM_of (inj : ∀ i j, i < S.nf → j < S.nf → S.fn i = S.fn j → i = j) {f : Nat} (hf : f < S.nf) {d : D} {v : V} (r : RD S.K ρ H d v) : ∀ {fs : List (Nat × D)} {vs : List V}, (∀ p ∈ fs, p.1 < S.nf) → RDs S.K ρ H (fs.map (·.2)) vs →
    ∃ us, putF (S.fn f) v ((fs.map fun p => S.fn p.1).zip vs) = ((putM f d fs).map fun p => S.fn p.1).zip us ∧ RDs S.K ρ H ((putM f d fs).map (·.2)) us ∧ ∀ p ∈ putM f d fs, p.1 < S.nf
  | [], vs, _, _ => ⟨[v], rfl, RDs.cons r RDs.nil, fun p hp => by
    rcases List.mem_cons.mp hp with e | e
    · rw [e]; exact hf
    · cases e⟩
  | (g, x) :: t, vs, h, rs => by
    obtain ⟨y, u, e, r1, r2⟩ := rs.of_cons
    have hg : g < S.nf := h (g, x) List.mem_cons_self
    have ht : ∀ p ∈ t, p.1 < S.nf := fun p hp => h p (List.mem_cons_of_mem _ hp)
    rw [e]
    show ∃ us, (if S.fn g = S.fn f then (S.fn g, v) :: (t.map fun p => S.fn p.1).zip u else (S.fn g, y) :: putF (S.fn f) v ((t.map fun p => S.fn p.1).zip u)) = ((match Nat.beq g f with | true => (g, d) :: t | false => (g, x) :: putM f d t : List (Nat × D)).map fun p => S.fn p.1).zip us ∧
      RDs S.K ρ H ((match Nat.beq g f with | true => (g, d) :: t | false => (g, x) :: putM f d t : List (Nat × D)).map (·.2)) us ∧ ∀ p ∈ (match Nat.beq g f with | true => (g, d) :: t | false => (g, x) :: putM f d t : List (Nat × D)), p.1 < S.nf
    cases q : Nat.beq g f with
    | true =>
      have eg : g = f := Nat.eq_of_beq_eq_true q
      rw [if_pos (by rw [eg])]
      exact ⟨v :: u, rfl, RDs.cons r r2, fun p hp => by
        rcases List.mem_cons.mp hp with z | z
        · rw [z]; exact hg
        · exact ht p z⟩
    | false =>
      have ne : g ≠ f := fun z => by
        rw [z, Nat.beq_refl] at q
        cases q
      rw [if_neg fun z => ne (inj g f hg hf z)]
      obtain ⟨us, e1, e2, e3⟩ := putM_of inj hf r (fs := t) (vs := u) ht r2
      refine ⟨y :: us, ?_, RDs.cons r1 e2, fun p hp => ?_⟩
      · rw [e1]
        rfl
      · rcases List.mem_cons.mp hp with z | z
        · rw [z]; exact hg
        · exact e3 p z
end
def setF (f : Nat) (cs : List Nat) (x d : D) (m : Mem) : Option Mem := match x with
  | .ref n => (match insOf m n with
    | some (c, fs) => (match cs.any (Nat.beq c) && Nat.blt fs.length 900 with
      | true => some (m.set n (.ins c (putM f d fs)))
      | false => none)
    | none => none)
  | _ => none
def sFldM (f : Nat) (cs : List Nat) (o v : E) : Sm := fun e m => (v e m).toS fun d m1 => (o e m1).toS fun x m2 => match setF f cs x d m2 with
  | some m3 => .nx e m3
  | none => .bad
/-- the class of an instance -/
def clsAt (x : D) (m : Mem) : List Nat := match x with
  | .ref n => (match insOf m n with
    | some (c, _) => [c]
    | none => [])
  | _ => []
/-- o.f op= v -/
def sFldAugM (f : Nat) (cs : List Nat) (op : D → D → Mem → R D) (o v : E) : Sm := fun e m => (o e m).toS fun x m1 => (getF f cs x m1).toS fun w m2 => (v e m2).toS fun d m3 => (op w d m3).toS fun z m4 => match setF f (clsAt x m1) x z m4 with
  | some m5 => .nx e m5
  | none => .bad
section
variable {X : Cx} {S : Sg} {W : XK} {x : Str} {pos pos' p : Pos} {o v : Expr} {co cv : E} {k fid : Nat} {cs : List Nat} {ρ : Rho} {H : Hp} {m : Mem}
theorem setF_of (inj : ∀ i j, i < S.nf → j < S.nf → S.fn i = S.fn j → i = j) (hf : fid < S.nf) {x d : D} {m' : Mem} {ox y : V} (h : setF fid cs x d m = some m') (rm : RM S ρ H m) (rx : RD S.K ρ H x ox) (rd : RD S.K ρ H d y) :
    ∃ cl ∈ cs, ∃ a dx fs, ox = .ref a ∧ H a = some (.ins (S.ca cl) dx fs) ∧ fs.length < 1000 ∧ RM S ρ (upd H a (.ins (S.ca cl) dx (putF (S.fn fid) y fs))) m' ∧ Ext ρ H ρ (upd H a (.ins (S.ca cl) dx (putF (S.fn fid) y fs))) := by
  cases x with
  | ref n =>
    obtain ⟨a, e1, hr⟩ := RD.of_ref rx
    have h' : (match insOf m n with | some (c, fs) => (match cs.any (Nat.beq c) && Nat.blt fs.length 900 with | true => some (m.set n (.ins c (putM fid d fs))) | false => none) | none => none) = some m' := h
    cases e2 : insOf m n with
    | none =>
      rw [e2] at h'
      cases h'
    | some cf =>
      obtain ⟨cl, fs⟩ := cf
      rw [e2] at h'
      have h' : (match cs.any (Nat.beq cl) && Nat.blt fs.length 900 with | true => some (m.set n (.ins cl (putM fid d fs))) | false => none) = some m' := h'
      cases e3 : cs.any (Nat.beq cl) && Nat.blt fs.length 900 with
      | false =>
        rw [e3] at h'
        cases h'
      | true =>
        rw [e3] at h'
        cases h'
        rw [Bool.and_eq_true] at e3
        obtain ⟨a2, dx, vs, g1, g2, g3, g4⟩ := rm.ins e2
        rw [hr] at g1
        cases g1
        obtain ⟨us, p1, p2, p3⟩ := putM_of inj hf rd g4 g3
        have hx : ∀ u, H a = some u → ¬ Fix u := fun u z => by
          rw [g2] at z
          cases z
          exact fix_ins
        have hl : fs.length < 900 := by
          have := e3.2
          rw [Nat.blt_eq] at this
          exact this
        have xx : Ext ρ H ρ (upd H a (.ins (S.ca cl) dx (putF (S.fn fid) y ((fs.map fun p => S.fn p.1).zip vs)))) := ext_upd hx
        refine ⟨cl, any_beq e3.1, a, dx, _, e1, g2, ?_, rm.set (o := .ins cl (putM fid d fs)) hr hx ⟨dx, us, by rw [upd_same, p1], p2.ext xx, p3⟩, xx⟩
        rw [List.length_zip, List.length_map]
        omega
  | _ => cases h
theorem ms_fld [c : Ok S W X k] (hf : FldOk S fid cs) (ho : PE X o (I S W co)) (hv : PE X v (I S W cv)) (hx : x = S.fn fid := by rfl) (hs : swapsWith v (some (.Attribute o x pos')) pos.line X.env = pure false := by rfl) : PS X (.Assign [.Attribute o x pos'] v pos) (IS S W (sFldM fid cs co cv)) := by
  subst hx
  have eK := c.K
  refine PS.mono (ps_fld ho hv hs) fun Z σ H ⟨ρ, e, m, sr, rm, h⟩ => ?_
  rw [eK]
  refine (I.toS (c := cv) sr rm h).mono fun y H1 ⟨ρ1, d, m1, N, h1⟩ => (I.toS (c := co) N.sr N.rm h1).mono fun ox H2 ⟨ρ2, xd, m2, N2, h2⟩ => ?_
  have h3 : PostS S W (match setF fid cs xd d m2 with | some m3 => .nx e m3 | none => .bad) ρ2 H2 Z := h2
  cases q : setF fid cs xd d m2 with
  | none =>
    rw [q] at h3
    exact h3.elim
  | some m3 =>
    rw [q] at h3
    obtain ⟨cl, hc, a, dx, fs, z1, z2, z5, z6, z7⟩ := setF_of c.inj hf.1 q N2.rm N2.rel (N.rel.ext N2.ext)
    obtain ⟨k1, k2⟩ := hf.2 cl hc
    exact ⟨a, _, dx, fs, z1, z2, k1, k2, z5, h3 _ _ _ z7 z6 (N2.sr.ext z7)⟩
theorem ms_fldaug [c : Ok S W X k] {op : Operator} {rd : V → V → Hp → VK → Prop} {f : D → D → Mem → R D} (hf : FldOk S fid cs) (hop : InOp X op rd) (hm : OpM S W rd f) (ho : PE X o (I S W co)) (hv : PE X v (I S W cv)) (hx : x = S.fn fid := by rfl) :
    PS X (.AugAssign (.Attribute o x pos') op v pos) (IS S W (sFldAugM fid cs f co cv)) := by
  subst hx
  have eK := c.K
  refine PS.mono (ps_fldaug ho hv hop) fun Z σ H ⟨ρ, e, m, sr, rm, h⟩ => ?_
  rw [eK]
  refine (I.toS (c := co) sr rm h).mono fun ox H1 ⟨ρ1, xd, m1, N, h1⟩ => ?_
  cases xd with
  | ref n =>
    obtain ⟨a, e1, hr⟩ := RD.of_ref N.rel
    have h1 : PostS S W ((getF fid cs (.ref n) m1).toS fun w m2 => (cv e m2).toS fun d m3 => (f w d m3).toS fun z m4 => match setF fid (clsAt (.ref n) m1) (.ref n) z m4 with
      | some m5 => .nx e m5
      | none => .bad) ρ1 H1 Z := h1
    cases e2 : insOf m1 n with
    | none =>
      have g0 : getF fid cs (.ref n) m1 = .bad := by
        show (match insOf m1 n with | some (c, fs) => (match cs.any (Nat.beq c) with | true => (match fs.lookup fid with | some d => R.ok d m1 | none => .bad) | false => .bad) | none => .bad) = _
        rw [e2]
      rw [g0] at h1
      exact h1.elim
    | some cf =>
      obtain ⟨cl, fs⟩ := cf
      have g0 : getF fid cs (.ref n) m1 = (match cs.any (Nat.beq cl) with | true => (match fs.lookup fid with | some d => R.ok d m1 | none => .bad) | false => .bad) := by
        show (match insOf m1 n with | some (c, fs) => (match cs.any (Nat.beq c) with | true => (match fs.lookup fid with | some d => R.ok d m1 | none => .bad) | false => .bad) | none => .bad) = _
        rw [e2]
      have c0 : clsAt (.ref n) m1 = [cl] := by
        show (match insOf m1 n with | some (c, _) => [c] | none => []) = _
        rw [e2]
      rw [g0, c0] at h1
      cases e3 : cs.any (Nat.beq cl) with
      | false =>
        rw [e3] at h1
        exact h1.elim
      | true =>
        rw [e3] at h1
        have h1 : PostS S W ((match fs.lookup fid with | some d => R.ok d m1 | none => .bad).toS fun w m2 => (cv e m2).toS fun d m3 => (f w d m3).toS fun z m4 => match setF fid [cl] (.ref n) z m4 with
          | some m5 => .nx e m5
          | none => .bad) ρ1 H1 Z := h1
        cases e4 : fs.lookup fid with
        | none =>
          rw [e4] at h1
          exact h1.elim
        | some w =>
          rw [e4] at h1
          obtain ⟨a2, dx, vs, g1, g2, g3, g4⟩ := N.rm.ins e2
          rw [hr] at g1
          cases g1
          obtain ⟨w', l1, l2⟩ := (lookup_of c.inj hf.1 g4 g3).1 w e4
          obtain ⟨k1, k2⟩ := hf.2 cl (any_beq e3)
          refine ⟨a, _, dx, _, w', e1, g2, k1, k2, l1, ?_⟩
          have h2 : PostS S W ((cv e m1).toS fun d m3 => (f w d m3).toS fun z m4 => match setF fid [cl] (.ref n) z m4 with
            | some m5 => .nx e m5
            | none => .bad) ρ1 H1 Z := h1
          refine (I.toS (c := cv) N.sr N.rm h2).mono fun y H2 ⟨ρ2, d, m2, N2, h3⟩ => ?_
          refine hm N2.rm (l2.ext N2.ext) N2.rel (Post.mono (Post.toS (Rel := RD S.K) N2.sr h3) fun z H3 ⟨ρ3, zd, m3, N3, h4⟩ => ?_)
          have h5 : PostS S W (match setF fid [cl] (.ref n) zd m3 with | some m5 => .nx e m5 | none => .bad) ρ3 H3 Z := h4
          cases q : setF fid [cl] (.ref n) zd m3 with
          | none =>
            rw [q] at h5
            exact h5.elim
          | some m5 =>
            rw [q] at h5
            obtain ⟨cl', hc', b, dx', fs', z1, z2, z5, z6, z7⟩ := setF_of c.inj hf.1 q N3.rm (RD.ref (N3.ext.map _ _ (N2.ext.map _ _ hr))) N3.rel
            cases z1
            have ec : cl' = cl := List.mem_singleton.mp hc'
            rw [ec] at z2 z6 z7
            exact ⟨dx', fs', z2, z5, h5 _ _ _ z7 z6 (N3.sr.ext z7)⟩
  | _ => exact h1.elim
end

/-! ## xs[i] = e, a list -/
def gIx (o i : E) : Tg := fun d e m => (o e m).toS fun x m1 => (i e m1).toS fun y m2 => match x, y with
  | .ref n, .int j => (match m2.get n with
    | some (.lst xs) => (match ixN xs.length j with
      | some k => .nx e (m2.set n (.lst (xs.set k d)))
      | none => .bad)
    | _ => .bad)
  | _, _ => .bad
section
variable {X : Cx} {S : Sg} {W : XK} {pos p : Pos} {o i : Expr} {co ci : E} {k : Nat}
theorem mg_ix (ho : PE X o (I S W co)) (hi : PE X i (I S W ci)) (ha : ∀ v, assign (.Subscript o i pos) X.env v = (do
      let ov ← holding [v] (eval o X.env)
      let iv ← holding [v, ov] (eval i X.env)
      standAt pos
      holding [v, ov, iv] (setItem ov iv v)
      release [v, ov, iv] []) := by intro _; rfl) : PG X (.Subscript o i pos) (IG S W (gIx co ci)) := by
  refine PG.mono (pg_sub ho hi set_list ha) fun v σ H Q ⟨ρ, e, m, d, sr, rm, r, h⟩ => ?_
  refine (I.toS (c := co) sr rm h).mono fun ov H1 ⟨ρ1, x, m1, N, h1⟩ => (I.toS (c := ci) N.sr N.rm h1).mono fun iv H2 ⟨ρ2, y, m2, N2, h2⟩ => ?_
  cases x with
  | ref n =>
    cases y with
    | int j =>
      have h3 : PostS S W (match m2.get n with | some (.lst xs) => (match ixN xs.length j with | some k => .nx e (m2.set n (.lst (xs.set k d))) | none => .bad) | _ => .bad) ρ2 H2 (onlyNx Q) := h2
      cases q : m2.get n with
      | none =>
        rw [q] at h3
        exact h3.elim
      | some ob =>
        rw [q] at h3
        cases ob with
        | lst xs =>
          have h4 : PostS S W (match ixN xs.length j with | some k => .nx e (m2.set n (.lst (xs.set k d))) | none => .bad) ρ2 H2 (onlyNx Q) := h3
          cases q2 : ixN xs.length j with
          | none =>
            rw [q2] at h4
            exact h4.elim
          | some t =>
            rw [q2] at h4
            obtain ⟨a, ys, g1, g2, g3⟩ := N2.rm.lst q
            obtain ⟨b, e1, hr⟩ := RD.of_ref (N.rel.ext N2.ext)
            rw [g1] at hr
            cases hr
            have hf : ∀ u, H2 a = some u → ¬ Fix u := fun u z => by
              rw [g2] at z
              cases z
              exact fix_lst
            have xx : Ext ρ2 H2 ρ2 (upd H2 a (.lst (ys.set t v))) := ext_upd hf
            refine ⟨a, ys, j, t, e1, RD.of_int N2.rel, g2, by rw [← g3.length]; exact q2, h4 _ _ _ xx (N2.rm.set (o := .lst (xs.set t d)) g1 hf ⟨_, upd_same, (g3.ext xx).set (((r.ext N.ext).ext N2.ext).ext xx) t⟩) (N2.sr.ext xx)⟩
        | _ => exact h3.elim
    | _ => exact h2.elim
  | _ => exact h2.elim
theorem goes_ix : Goes' (gIx co ci) := fun d e m => by
  show (∃ e1 m1, (co e m).toS _ = RS.nx e1 m1) ∨ _ ∨ _
  unfold gIx
  cases co e m with
  | err x m1 => exact .inr (.inl ⟨x, m1, rfl⟩)
  | bad => exact .inr (.inr rfl)
  | ok x m1 =>
    simp only [R.toS]
    cases ci e m1 with
    | err x m1 => exact .inr (.inl ⟨x, m1, rfl⟩)
    | bad => exact .inr (.inr rfl)
    | ok y m2 =>
      simp only [R.toS]
      split
      · split
        · split
          · exact .inl ⟨_, _, rfl⟩
          · exact .inr (.inr rfl)
        · exact .inr (.inr rfl)
      · exact .inr (.inr rfl)
end
end Mi
end

section
set_option Elab.async false
set_option linter.all false
set_option maxRecDepth 100000
set_option autoImplicit false
set_option maxHeartbeats 2000000
namespace MX
open PySem PySem.W PySem.Calls PyProof.Rows PySem.HandSPX PySem.Spec Builtin Builtin.ObjectAttr

/-! ## An own exception class over ValueError whose __init__ says super().__init__(..), then self.f = f -/
theorem osaV {prog : Program} {w : World} {A : Around} {R : Result → Shared → Prop} {hp : Heap} {g : Array GenState} {d : Drawn} {t : Nat} {os : OsState} {K : W.Frag} {name : Str} {tk : Tok} {v : Value} {x C : Addr} {ox : Obj} {od : Option Obj} {cd : ClassData}
    (X : K.In hp) (I : W.InstAt hp x ox C od) (hcd : W.clsIn K C = some cd) (hm : refsVE cd.mro = true) (ha : W.findIn K (.ref C) name = some none)
    (hq : wpAny (model prog w) A.in1 (storeInOwnDict (.ref x) (.ref C) (.str name tk) name v false)
      (fun fin s' => match fin with | .done f => R (.ok f) s' | .again c' => c'.quiet = true ∧ codeAny (model prog w) A c' R s') (fun e s' => R (.error e) s') ⟨hp, g, d, t, os⟩) :
    codeAny (model prog w) A (.call (.builtin "object.__setattr__") ⟨[.ref x, .str name tk, v], []⟩) R ⟨hp, g, d, t, os⟩ := by
  have SF := F.store_object
  have ne := refsVE_ne hm
  have hob : cd.mro.contains (.type "object") = true := (refsVE_contains "object" _ hm).trans (by decide +kernel)
  have sub : W.Looks (model prog w) hp (isInstance (.ref x) (.type "object")) true := I.type.andThen (W.looks_mroIn X (by unfold W.mroIn; rw [hcd, Option.bind_some, if_neg (by rw [ne]; decide), hob]))
  refine codeAny_call_builtin SF.slot.plain SF.entry (@W.check_slot (model prog w) _ _ ⟨hp, g, d, t, os⟩ "object.__setattr__" "object" "__setattr__" (.ref x) [.str name tk, v] [] _ SF.kind SF.split sub (SF.args (.ref x) (.str name tk) v) ?_)
  have hmr : W.Looks (model prog w) hp (mroOf (.ref C)) cd.mro := (W.looks_clsIn X hcd).andThen .now
  have L3 : W.Looks (model prog w) hp (storeTaker? none) none := .now
  rw [W.osa_eq, refuse_eq]
  refine wpAny_bind (wpAny_bind (I.type.at (wpAny_bind (hmr.at ?_))))
  rw [refsVE_pass _ _ hm]
  refine wpAny_pure (wpAny_bind (I.type.at (wpAny_bind ((W.looks_findIn X ha).at (wpAny_bind (L3.at ?_))))))
  exact hq
theorem osaV_old {prog : Program} {w : World} {A : Around} {R : Result → Shared → Prop} {hp : Heap} {g : Array GenState} {d : Drawn} {t : Nat} {os : OsState} {K : W.Frag} {name : Str} {tk : Tok} {v : Value} {x C dx : Addr} {fv : Array Value} {cd : ClassData} {m0 : Str → Option Value} {nl : List Str}
    (X : K.In hp) (hx : hp.get? x = some { cls := .ref C, dict := some dx, data := .fields fv }) (hns : hp.Ns1 dx m0) (hw : Within m0 nl) (hz : nl.length ≤ 1000) (hcd : W.clsIn K C = some cd) (hm : refsVE cd.mro = true) (hh : cd.hasDict = true)
    (ha : W.findIn K (.ref C) name = some none)
    (hq : ∀ h' tk', (∀ b o, b ≠ dx → hp.get? b = some o → h'.get? b = some o) → h'.Ns1 dx (fun y => if y = name then some v else m0 y) → R (.ok (.ret .none)) ⟨h', g, d, tk', os⟩) :
    codeAny (model prog w) A (.call (.builtin "object.__setattr__") ⟨[.ref x, .str name tk, v], []⟩) R ⟨hp, g, d, t, os⟩ := by
  obtain ⟨oD, esD, epD, hoD, hdD, _⟩ := hns.count hw
  have I : W.InstAt hp x { cls := .ref C, dict := some dx, data := .fields fv } C (some oD) := ⟨hx, rfl, rfl, hoD⟩
  refine osaV X I hcd hm ha ?_
  have hcls : W.Looks (model prog w) hp (classData C) cd := W.looks_clsIn X hcd
  obtain ⟨nm, bs, mro, ns, qn, hd, sn, sb, ab, col, del⟩ := cd
  dsimp only at hh
  subst hh
  unfold storeInOwnDict ownDictForStores
  repeat (first | with_reducible refine ESX.store_in_old hns hw hz ?_ | with_reducible refine wpAny_loadPart_at hx ?_ | with_reducible refine hcls.at ?_ | wp_step)
  intro h' tk' hn' hs
  exact hq h' tk' (fun b o hb ho => (hs.2 b hb).trans ho) hn'

/-- ValueError.__init__ bound to the exception, called -/
theorem call_bw {prog : Program} {w : World} {A : Around} {E : Value → Shared → Prop} {h : Heap} {g : Array GenState} {d : Drawn} {t : Nat} {os : OsState}
    {nm q : Str} {C N : Addr} {bs bm : List Value} {hdct : Bool} {sn : List Str} {sub : List Value} {ab : Bool} {col : Option Bool} {dd : Option Addr} {k0 k1 k2 k3 k5 : Option Value} {u e t0 : Addr} {rest : List Value} {Q : Value → Shared → Prop}
    (hC : h.get? C = some (excClassObj nm q C N bs bm hdct sn sub ab col dd k0 k1 k2 k3 k5 "ValueError.__new__")) (he : h.get? e = some (excO C t0)) (hu : h.get? u = some (kxs_mw "ValueError.__init__" e)) (hrest : rest.length ≤ sizeLine)
    (hq : ∀ h' t1, (∀ b o, b ≠ e → h.get? b = some o → h'.get? b = some o) → h'.get? e = some (excO C t1) → Q .none ⟨h', g, d, t, os⟩) :
    wpAny (model prog w) A (call (.ref u) rest) Q E ⟨h, g, d, t, os⟩ := by
  refine wpAny_call (codeAny_of_tree ?_)
  show wpAny _ A.in1 (callAny (.ref u) ⟨rest, []⟩) _ _ _
  simp only [callAny]
  refine wpAny_bind (wpAny_load hu ?_)
  simp only [kxs_mw, show (Value.type "method-wrapper" == Value.type "method" || Value.type "method-wrapper" == Value.type "builtin_function_or_method" || Value.type "method-wrapper" == Value.type "method-wrapper") = true by decide, if_true]
  refine W.KFB.if_so (by decide) ?_
  refine wpAny_bind (ESX.check_bound F.excBase_ValueError hC he rfl ?_)
  refine wpAny_bind (wpAny_pure (wpAny_pure ?_))
  refine ⟨Code.quiet_builtin _ (by decide +kernel), codeAny_builtin F.excBase_ValueError.initEntry ?_⟩
  rw [Around.under_plainId F.excBase_ValueError.init.plain _]
  wp_walk
  refine hq _ h.objs.size (fun b o hb ho => ?_) ?_
  · rw [Heap.get?_update_other _ _ (Ne.symm hb)]
    exact Heap.get?_push_of_some _ ho
  · rw [Heap.get?_update_self _ (Heap.get?_push_of_some _ he) rfl]
    rfl

/-! ### the texts of __init__ -/
structure P1 where
  (a0 a1 s0 s1 s2 s3 c0 c1 x0 x1 x2 x3 : Pos)
def iA1 (f : Str) (p : P1) : Arguments := { posonlyargs := [], args := [{ arg := "self", annotation := none, pos := p.a0 }, { arg := f, annotation := none, pos := p.a1 }], vararg := none, kwonlyargs := [], kw_defaults := [], kwarg := none, defaults := [] }
def iB1 (f : Str) (p : P1) : List Stmt := [.Expr (.Call (.Attribute (.Call (.Name "super" p.s0) [] [] p.s1) "__init__" p.s2) [.Name f p.c0] [] p.s3) p.c1, .Assign [.Attribute (.Name "self" p.x0) f p.x1] (.Name f p.x2) p.x3]
def iS1 (f : Str) : Scope := { kind := .function, names := [(PySem.Str.ofString "self", .local), (f, .local), (PySem.Str.ofString "__class__", .free), (PySem.Str.ofString "super", .globalImplicit)], isGenerator := false, isCoroutine := false, more := [] }
structure P2 where
  (a0 a1 a2 s0 s1 s2 s3 c0 c1 c2 x0 x1 x2 x3 y0 y1 y2 y3 : Pos)
def iA2 (f f' : Str) (p : P2) : Arguments := { posonlyargs := [], args := [{ arg := "self", annotation := none, pos := p.a0 }, { arg := f, annotation := none, pos := p.a1 }, { arg := f', annotation := none, pos := p.a2 }], vararg := none, kwonlyargs := [], kw_defaults := [], kwarg := none, defaults := [] }
def iB2 (f f' : Str) (p : P2) : List Stmt := [.Expr (.Call (.Attribute (.Call (.Name "super" p.s0) [] [] p.s1) "__init__" p.s2) [.Name f p.c0, .Name f' p.c1] [] p.s3) p.c2, .Assign [.Attribute (.Name "self" p.x0) f p.x1] (.Name f p.x2) p.x3,
  .Assign [.Attribute (.Name "self" p.y0) f' p.y1] (.Name f' p.y2) p.y3]
def iS2 (f f' : Str) : Scope := { kind := .function, names := [(PySem.Str.ofString "self", .local), (f, .local), (f', .local), (PySem.Str.ofString "__class__", .free), (PySem.Str.ofString "super", .globalImplicit)], isGenerator := false, isCoroutine := false, more := [] }

/-- what the written part says of the class at C, its __init__ at fI (text: pa bd sc), the cell at cc, the code object at cda -/
structure ExT (K : Frag) (prog : Program) (C fI : Addr) (fs : List Str) (qual : Str) (pa : Arguments) (bd : List Stmt) (sc : Scope) : Prop where
  cls : ∃ nm q N bs bm sn sub ab col dd k0 k1 k2 k3 k5, K.lookup C = some (excClassObj nm q C N bs bm true sn sub ab col dd k0 k1 k2 k3 k5 "ValueError.__new__") ∧ refsVE bm = true ∧ alongIn K "__init__" bm = some (some (.builtin "ValueError.__init__"))
  sa : findIn K (.ref C) "__setattr__" = some (some (.builtin "object.__setattr__"))
  xf : L2.XfC K C
  noN : ∀ f ∈ fs, findIn K (.ref C) f = some none
  iC : findIn K (.ref C) "__init__" = some (some (.ref fI))
  tC : typeIn K (.ref fI) = some (.type "function")
  kC : keepIn K (.ref C) = true
  tyC : typeIn K (.ref C) = some (.type "type")
  op : nsIn K cStatics "thirdparty.any" = some none
  sup : nsIn K mainGlobals "super" = some none
  top : (prog.main.scope.names.lookup ("super" : Str)).isSome = false
  veC : subIn K (.ref C) (.type "ValueError") = some true
  fn : ∃ (oc : Value) (od : Option Addr) (doc pm kV : Value) (an : Option Addr) (cda cc : Addr) (ct : Value) (osl : Array (Option Value)) (ccl : Value) (cdd : Option Addr) (vs : Array Value) (ccs : Array (Option Value)) (file : Str) (tf : Tok) (cl : Value) (cld : Option Addr) (csl : Array (Option Value)),
    K.lookup fI = some ⟨oc, od, .func (ksFn "__init__" qual pa bd sc .none kV doc pm an (.ref cda) ct cc), osl⟩ ∧ codeIn K (.ref cda) qual = true ∧
    K.lookup cda = some ⟨ccl, cdd, .fields vs, ccs⟩ ∧ vs[2]? = some (.str file tf) ∧ ((prog.main.file : Str) == file) = true ∧ K.lookup cc = some ⟨cl, cld, .cell (some (.ref C)), csl⟩
end MX
end

section
set_option Elab.async false
set_option linter.all false
set_option maxRecDepth 100000
set_option autoImplicit false
set_option maxHeartbeats 2000000
namespace MX
open PySem PySem.W PySem.Calls PyProof.Rows PySem.HandSPX PySem.Spec Builtin Builtin.ObjectAttr
section
variable {prog : Program} {w : World} {A : Around} {E : Value → Shared → Prop} {s : Shared} {K : Frag} {mg mb : Str → Option Value} {C fI : Addr} {fs : List Str} {qual : Str} {pa : Arguments} {bd : List Stmt} {sc : Scope}
theorem ExT.clsIn_ (T : ExT K prog C fI fs qual pa bd sc) : ∃ cd bm, clsIn K C = some cd ∧ cd.mro = .ref C :: bm ∧ refsVE cd.mro = true ∧ cd.hasDict = true ∧ alongIn K "__init__" bm = some (some (.builtin "ValueError.__init__")) := by
  obtain ⟨nm, q, N, bs, bm, sn, sub, ab, col, dd, k0, k1, k2, k3, k5, hC, hbm, ha⟩ := T.cls
  refine ⟨{ name := nm, bases := bs, mro := .ref C :: bm, ns := N, qualname := q, hasDict := true, slotNames := sn, subclasses := sub, abstract := ab, collection := col, hasDel := false }, bm, ?_, rfl, hbm, rfl, ha⟩
  unfold clsIn
  rw [hC] <;> rfl
theorem sup_stage (T : ExT K prog C fI fs qual pa bd sc) {oc : Value} {od : Option Addr} {doc pm kV : Value} {an : Option Addr} {cda cc : Addr} {ct : Value} {osl : Array (Option Value)} {ccl : Value} {cdd : Option Addr} {vs : Array Value} {ccs : Array (Option Value)} {file : Str} {tf : Tok} {cl : Value} {cld : Option Addr} {csl : Array (Option Value)}
    (lf : K.lookup fI = some ⟨oc, od, .func (ksFn "__init__" qual pa bd sc .none kV doc pm an (.ref cda) ct cc), osl⟩) (lcd : K.lookup cda = some ⟨ccl, cdd, .fields vs, ccs⟩) (hvs : vs[2]? = some (.str file tf)) (hfile : ((prog.main.file : Str) == file) = true) (lcc : K.lookup cc = some ⟨cl, cld, .cell (some (.ref C)), csl⟩)
    {x t0 L : Addr} {m : Str → Option Value} {rest : List Value} {ar : Arg} {body : List Stmt} {e : Expr} {es : List Expr} {p0 p1 p2 p3 p4 : Pos} {Q : Flow → Shared → Prop}
    (X : K.In s.heap) (hG : s.heap.Ns mainGlobals mg) (hB : s.heap.Ns builtinsNs mb) (hb : mb "super" = bootBuiltins "super") (hx : s.heap.get? x = some (excO C t0)) (hnx : K.lookup x = none) (hn : s.heap.Ns L m) (hpar : (pa.posonlyargs ++ pa.args).head? = some ar) (hself : m ar.arg = some (.ref x))
    (hks : sc.names.lookup ("super" : Str) = some .globalImplicit) (hkc : sc.names.lookup ("__class__" : Str) = some .free) (hka : sc.names.lookup ar.arg = some .local) (hk : sc.kind = .function)
    (hz : rest.length ≤ sizeLine) (he : starEach (e :: es) (ksEnv qual sc L fI (.ref cda) cc) = (false, eval e (ksEnv qual sc L fI (.ref cda) cc)) :: starEach es (ksEnv qual sc L fI (.ref cda) cc)) (hpl : (backTo p3 (starEach es (ksEnv qual sc L fI (.ref cda) cc))).any (·.1) = false)
    (ha : ∀ (s1 : Shared) (Q' : List Value → Shared → Prop), (∀ b o, s.heap.get? b = some o → s1.heap.get? b = some o) → Q' rest s1 → wpAny (model prog w) A (spliced (backTo p3 (starEach (e :: es) (ksEnv qual sc L fI (.ref cda) cc)))) Q' E s1)
    (hs : swapsWith (.Call (.Attribute (.Call (.Name "super" p0) [] [] p1) "__init__" p2) (e :: es) [] p3) none p4.line (ksEnv qual sc L fI (.ref cda) cc) = pure false)
    (hi : interactive (ksEnv qual sc L fI (.ref cda) cc) = false) {pl : Sem Bool}
    (hcall : eval (.Call (.Attribute (.Call (.Name "super" p0) [] [] p1) "__init__" p2) (e :: es) [] p3) (ksEnv qual sc L fI (.ref cda) cc) = (do
      let ov ← attributeBase (.Call (.Name "super" p0) [] [] p1) "__init__" (ksEnv qual sc L fI (.ref cda) cc) (eval (.Call (.Name "super" p0) [] [] p1) (ksEnv qual sc L fI (.ref cda) cc))
      standAt p2.atName
      let (f, first) ← holding [ov] (getMethod ov "__init__" pl)
      callWith p3 f first (backTo p3 (starEach (e :: es) (ksEnv qual sc L fI (.ref cda) cc))) []))
    (hq : ∀ h' tk t1, (∀ b o, b ≠ x → s.heap.get? b = some o → h'.get? b = some o) → h'.get? x = some (excO C t1) → Q .next { s with heap := h', toks := tk }) :
    _root_.PySem.wpAt (model prog w) A (.func body (ksEnv qual sc L fI (.ref cda) cc)) (exec (.Expr (.Call (.Attribute (.Call (.Name "super" p0) [] [] p1) "__init__" p2) (e :: es) [] p3) p4) (ksEnv qual sc L fI (.ref cda) cc)) Q E s := by
  obtain ⟨cd, bm, hcd, hmro, hve, hhd, hal⟩ := T.clsIn_
  obtain ⟨nm, q, N, bs, bm', sn, sub, ab, col, dd, k0, k1, k2, k3, k5, hC, _, _⟩ := T.cls
  obtain ⟨hh, g, d, t, os⟩ := s
  refine ks_wpAt_Expr_any (ks_wpAt_MethodCall (pl := pl) ?_ hcall) hi hs
  refine ks_wpAt_super_base (env := ksEnv qual sc L fI (.ref cda) cc) hks hkc (by decide) rfl (X _ _ lf) rfl hpar rfl (X _ _ lcd) rfl hvs hfile T.top ?_
  refine ks_loadName_global hk hks (loadGlobal_builtin (env := ksEnv qual sc L fI (.ref cda) cc) hG (mg_none_of X hG T.sup) hB (hb.trans (show bootBuiltins "super" = some (.type "super") by decide +kernel)) ⟨rfl, ?_⟩)
  refine wpAny_loadName_free hk hkc rfl ⟨_, X _ _ lcc, rfl⟩ ?_
  refine wpAny_loadName_local hk hka hn hself ?_
  have gC := X _ _ hC
  have I : InstAt hh x (excO C t0) C none := ⟨hx, rfl, rfl, trivial⟩
  refine ks_wpAny_isType_cls gC rfl ⟨rfl, ?_⟩
  refine ks_wpAny_call_super gC rfl hx rfl (fun c z => by cases z) (looks_mroIn X (by unfold mroIn; rw [hcd, Option.bind_some, if_neg (by rw [hmro]; exact Bool.false_ne_true), hmro]; simp)) fun h1 hso k1' => ?_
  have X1 : K.In h1 := X.keeps k1'
  have hx1 := k1' _ _ hx
  have I1 : InstAt h1 x (excO C t0) C none := ⟨hx1, rfl, rfl, trivial⟩
  refine kxs_getMethod kxs_ValueError hso (looks_opaque X1 T.op) (l₀ := cd.mro) (l := bm) ?_ (by rw [hmro]; exact ESX.drop_own C bm) X1 hal (I1.type.andThen (looks_subIn X1 T.veC)) (ks_ne X1 I1 hcd) (by decide) ?_
  · exact fun A Q E s k q => wpAny_bind ((looks_clsIn X1 hcd) A _ E s k (wpAny_pure q))
  show wpAny _ _ (callWith p3 (.ref h1.objs.size) [] (backTo p3 (starEach (e :: es) (ksEnv qual sc L fI (.ref cda) cc))) []) _ _ _
  have k2 : ∀ b o, h1.get? b = some o → (h1.push (kxs_mw "ValueError.__init__" x)).get? b = some o := fun b o z => Heap.get?_push_of_some _ z
  refine kxs_callWith (i := "ValueError.__init__") (x := x) (by rw [he]; show (false || (backTo p3 (starEach es _)).any (·.1)) = false; rw [hpl]; rfl) ?_
  rw [he]
  show wpAny _ _ (evalArgs _ true ((false, eval e _) :: backTo p3 (starEach es _)) []) _ _ _
  refine evalArgs_plain ?_
  have ha2 := fun Q' => ha ⟨h1.push (kxs_mw "ValueError.__init__" x), g, d, t + 1, os⟩ Q' (fun b o z => k2 b o (k1' b o z))
  rw [he] at ha2
  refine ha2 _ ⟨Heap.get?_push_at rfl rfl, ?_⟩
  show wpAny _ _ (call (.ref h1.objs.size) ([] ++ rest) []) _ _ _
  refine call_bw (k2 _ _ (X1 _ _ hC)) (k2 _ _ hx1) (Heap.get?_push_at rfl rfl) hz fun h' t1 kk hx' => ?_
  exact hq h' (t + 1) t1 (fun b o hbx z => kk b o hbx (k2 _ _ (k1' _ _ z))) hx'
end
end MX
end

section
set_option Elab.async false
set_option linter.all false
set_option maxRecDepth 100000
set_option autoImplicit false
set_option maxHeartbeats 2000000
namespace MX
open PySem PySem.W PySem.Calls PyProof.Rows PySem.HandSPX PySem.Spec Builtin Builtin.ObjectAttr
/-- what __init__ leaves of a fresh exception at x -/
structure InitEnd (h h' : Heap) (x C dx t1 : Addr) (mA : Str → Option Value) : Prop where
  keep : ∀ b o, b ≠ x → h.get? b = some o → h'.get? b = some o
  obj : h'.get? x = some { cls := .ref C, dict := some dx, data := .fields #[.ref t1, .none, .none, .none, .bool false, .none] }
  dbig : h.objs.size ≤ dx
  dne : dx ≠ x
  ns : h'.Ns1 dx mA
structure Made (h h' : Heap) (e C d : Addr) (mA : Str → Option Value) : Prop where
  keep : ∀ b o, h.get? b = some o → h'.get? b = some o
  new : h.objs.size ≤ e
  obj : ∃ oe vs, h'.get? e = some oe ∧ oe.cls = .ref C ∧ oe.dict = some d ∧ oe.data = .fields vs ∧ vs[1]? = some .none
  dbig : h.objs.size ≤ d
  dne : d ≠ e
  ns : h'.Ns1 d mA
theorem kept_but {K : Frag} {h h' : Heap} {x : Addr} (X : K.In h) (hx : K.lookup x = none) (k : ∀ b o, b ≠ x → h.get? b = some o → h'.get? b = some o) : K.In h' := fun a o e =>
  k a o (fun z => by rw [z, hx] at e; cases e) (X a o e)
theorem ldK {M : Model} {s : Shared} {name : Str} {scope : Scope} {L a : Addr} {cd : Value} {cc : Addr} {m : Str → Option Value} {x : Str} {pos : Pos} {v : Value} {Q : Value → Shared → Prop} {A : Around} {E : Value → Shared → Prop} (hn : s.heap.Ns L m) (hv : m x = some v) (h : Q v s)
    (hk : scope.kind = .function) (hl : scope.names.lookup x = some .local) (hd : (x == ("__debug__" : Str)) = false) :
    wpAny M A (eval (.Name x pos) (ksEnv name scope L a cd cc)) Q E s := wpAny_Name (wpAny_loadName_local hk hl hn hv h) hd
theorem Ns_keep {h h' : Heap} {L x : Addr} {m : Str → Option Value} (hn : h.Ns L m) (hx : L ≠ x) (k : ∀ b o, b ≠ x → h.get? b = some o → h'.get? b = some o) : h'.Ns L m := by
  obtain ⟨o, es, ep, ho, r⟩ := hn
  exact ⟨o, es, ep, k _ _ hx ho, r⟩
theorem sz {l : List Value} (h : l.length ≤ 3) : l.length ≤ sizeLine := by
  rw [sizeLine_eq]
  omega
/-- the names of the fields -/
structure OkN (f : Str) : Prop where
  db : (f == ("__debug__" : Str)) = false
  sf : (f == ("self" : Str)) = false
  cl : (f == ("__class__" : Str)) = false
  su : (f == ("super" : Str)) = false
/-- how the text of __init__ is called, how it calls super().__init__ -/
structure Tx1 (f : Str) (p : P1) : Prop where
  n : OkN f
  bd : ∀ (qual : Str) (kV doc pm : Value) (an : Option Addr) (cdv ct : Value) (cc : Addr) (x v : Value), bindArgs (ksFn "__init__" qual (iA1 f p) (iB1 f p) (iS1 f) .none kV doc pm an cdv ct cc) ⟨[x, v], []⟩ = pure [(("self" : Str), x), (f, v)]
  cl : ∀ (qual : Str) (L a : Addr) (cd : Value) (cc : Addr), ∃ pl : Sem Bool, eval (.Call (.Attribute (.Call (.Name "super" p.s0) [] [] p.s1) "__init__" p.s2) [.Name f p.c0] [] p.s3) (ksEnv qual (iS1 f) L a cd cc) = (do
      let ov ← attributeBase (.Call (.Name "super" p.s0) [] [] p.s1) "__init__" (ksEnv qual (iS1 f) L a cd cc) (eval (.Call (.Name "super" p.s0) [] [] p.s1) (ksEnv qual (iS1 f) L a cd cc))
      standAt p.s2.atName
      let (f1, first) ← holding [ov] (getMethod ov "__init__" pl)
      callWith p.s3 f1 first (backTo p.s3 (starEach [.Name f p.c0] (ksEnv qual (iS1 f) L a cd cc))) [])
structure Tx2 (f f' : Str) (p : P2) : Prop where
  n : OkN f
  n' : OkN f'
  ne : (f == f') = false
  bd : ∀ (qual : Str) (kV doc pm : Value) (an : Option Addr) (cdv ct : Value) (cc : Addr) (x v v' : Value), bindArgs (ksFn "__init__" qual (iA2 f f' p) (iB2 f f' p) (iS2 f f') .none kV doc pm an cdv ct cc) ⟨[x, v, v'], []⟩ = pure [(("self" : Str), x), (f, v), (f', v')]
  cl : ∀ (qual : Str) (L a : Addr) (cd : Value) (cc : Addr), ∃ pl : Sem Bool, eval (.Call (.Attribute (.Call (.Name "super" p.s0) [] [] p.s1) "__init__" p.s2) [.Name f p.c0, .Name f' p.c1] [] p.s3) (ksEnv qual (iS2 f f') L a cd cc) = (do
      let ov ← attributeBase (.Call (.Name "super" p.s0) [] [] p.s1) "__init__" (ksEnv qual (iS2 f f') L a cd cc) (eval (.Call (.Name "super" p.s0) [] [] p.s1) (ksEnv qual (iS2 f f') L a cd cc))
      standAt p.s2.atName
      let (f1, first) ← holding [ov] (getMethod ov "__init__" pl)
      callWith p.s3 f1 first (backTo p.s3 (starEach [.Name f p.c0, .Name f' p.c1] (ksEnv qual (iS2 f f') L a cd cc))) [])
theorem nesym {a b : Str} (h : (a == b) = false) : (b == a) = false := by
  simp only [beq_eq_false_iff_ne] at h ⊢
  exact h.symm
section
variable {prog : Program} {w : World} {A : Around} {R : Result → Shared → Prop} {s : Shared} {K : Frag} {mg mb : Str → Option Value} {C fI : Addr} {qual : Str}
theorem look_1 {f : Str} {v x : Value} (hf : OkN f) : (fun y => [(("self" : Str), x), (f, v)].reverse.lookup y) f = some v ∧ (fun y => [(("self" : Str), x), (f, v)].reverse.lookup y) ("self" : Str) = some x := by
  have h2 : (("self" : Str) == f) = false := by
    have := hf.sf
    simp only [beq_eq_false_iff_ne] at this ⊢
    exact this.symm
  constructor <;> simp [List.lookup, h2]
theorem init1 {f : Str} {p : P1} (T : ExT K prog C fI [f] qual (iA1 f p) (iB1 f p) (iS1 f)) (tx : Tx1 f p) {x t0 : Addr} {v : Value} (X : K.In s.heap) (hlim : s.heap.NoLimit) (hG : s.heap.Ns mainGlobals mg) (hB : s.heap.Ns builtinsNs mb) (hb : mb "super" = bootBuiltins "super")
    (hx : s.heap.get? x = some (excO C t0)) (hnx : K.lookup x = none) (hroom : A.depth < recursionLimit)
    (hq : ∀ h' tk dx t1, InitEnd s.heap h' x C dx t1 (fun y => if y = f then some v else none) → R (.ok (.ret .none)) { s with heap := h', toks := tk }) :
    codeAny (model prog w) A (.call (.ref fI) ⟨[.ref x, v], []⟩) R s := by
  have hf := tx.n
  obtain ⟨oc, od, doc, pm, kV, an, cda, cc, ct, osl, ccl, cdd, vs, ccs, file, tf, cl, cld, csl, lf, hcd, lcd, hvs, hfile, lcc⟩ := T.fn
  obtain ⟨cd, bm, hcl, hmro, hve, hhd, hal⟩ := T.clsIn_
  have l1 : (iS1 f).names.lookup ("self" : Str) = some .local := by unfold iS1; rfl
  have l2 : (iS1 f).names.lookup f = some .local := by
    unfold iS1
    show List.lookup f ((("self" : Str), NameKind.local) :: _) = _
    simp [List.lookup, hf.sf]
  have l3 : (iS1 f).names.lookup ("super" : Str) = some .globalImplicit := by
    unfold iS1
    have e : (("super" : Str) == f) = false := by
      have := hf.su
      simp only [beq_eq_false_iff_ne] at this ⊢
      exact this.symm
    show List.lookup ("super" : Str) [(("self" : Str), NameKind.local), (f, .local), (("__class__" : Str), .free), (("super" : Str), .globalImplicit)] = _
    simp only [List.lookup, e]
    rfl
  have l4 : (iS1 f).names.lookup ("__class__" : Str) = some .free := by
    unfold iS1
    have e : (("__class__" : Str) == f) = false := by
      have := hf.cl
      simp only [beq_eq_false_iff_ne] at this ⊢
      exact this.symm
    show List.lookup ("__class__" : Str) [(("self" : Str), NameKind.local), (f, .local), (("__class__" : Str), .free), (("super" : Str), .globalImplicit)] = _
    simp only [List.lookup, e]
    rfl
  refine ks_codeAny_call_defAt (fd := ksFn "__init__" qual (iA1 f p) (iB1 f p) (iS1 f) .none kV doc pm an (.ref cda) ct cc) (body := iB1 f p) (binds := [("self", .ref x), (f, v)]) hroom (X _ _ lf) rfl hlim (codeRec_of X hcd) rfl (BindsTo.of_eq (tx.bd _ _ _ _ _ _ _ _ _ _)) ?_ ?_ (fun h₁ hns hk₁ => ?_) rfl rfl rfl
  · intro y hy
    have hy : y ∈ [(("self" : Str), NameKind.local), (f, .local), (("__class__" : Str), .free), (("super" : Str), .globalImplicit)] := hy
    simp only [List.mem_cons, List.not_mem_nil, or_false] at hy
    rcases hy with rfl | rfl | rfl | rfl <;> exact fun z => by cases z
  · intro y hy
    simp only [List.mem_cons, List.not_mem_nil, or_false] at hy
    rcases hy with rfl | rfl
    · exact l1
    · exact l2
  obtain ⟨g1, g2⟩ := look_1 (f := f) (v := v) (x := .ref x) hf
  have hxL : s.heap.objs.size ≠ x := Nat.ne_of_gt (Heap.lt_size hx)
  have X₁ : K.In h₁ := X.keeps hk₁
  have hx₁ := hk₁ _ _ hx
  show _root_.PySem.wpAt _ _ _ (execs (iB1 f p) (ksEnv qual (iS1 f) s.heap.objs.size fI (.ref cda) cc)) _ _ _
  obtain ⟨pl, hcall⟩ := tx.cl qual s.heap.objs.size fI (.ref cda) cc
  refine ks_wpAt_execs_cons ?_
  refine sup_stage (mg := mg) (mb := mb) (m := fun y => [(("self" : Str), Value.ref x), (f, v)].reverse.lookup y) (rest := [v]) T lf lcd hvs hfile lcc X₁ (hG.keeps hk₁) (hB.keeps hk₁) hb hx₁ hnx hns rfl g2 l3 l4 l1 rfl (sz (show 1 ≤ 3 by decide)) rfl rfl ?_ rfl rfl hcall ?_
  · intro s1 Q' k1 q
    show wpAny _ _ (spliced ((false, eval (.Name f p.c0) _) :: [])) _ _ _
    exact spliced_cons (ldK (hns.keeps k1) g1 (spliced_nil q) rfl l2 hf.db)
  intro h2 tk t1 k2 hx2
  have X₂ : K.In h2 := kept_but X₁ hnx k2
  have hn2 : h2.Ns s.heap.objs.size _ := Ns_keep hns hxL k2
  refine ks_wpAt_execs_cons (wpAt_of_wpAny (plainObj_wpAny_Assign_Attribute ?_ rfl))
  refine ldK (v := v) hn2 g1 (ldK (v := .ref x) hn2 g2 ?_ rfl l1 (by decide)) rfl l2 hf.db
  refine set_plain X₂ (ox := excO C t1) (od := none) ⟨hx2, rfl, rfl, trivial⟩ T.sa ?_
  refine exc_osa X₂ hx2 hcl hve hhd (T.noN f (List.mem_cons_self)) (fun h₃ tk₃ dx k₃ dn dne hx₃ hn₃ => ?_)
  have z : s.heap.objs.size < h2.objs.size := hn2.lt
  exact wpAt_of_wpAny (wpAny_execs_nil (hq h₃ tk₃ dx t1 ⟨fun b o hb e => k₃ b o hb (k2 b o hb (hk₁ b o e)), hx₃, Nat.le_of_lt (Nat.lt_of_lt_of_le z dn), dne, hn₃⟩))
end
end MX
end

section
set_option Elab.async false
set_option linter.all false
set_option maxRecDepth 100000
set_option autoImplicit false
set_option maxHeartbeats 2000000
namespace MX
open PySem PySem.W PySem.Calls PyProof.Rows PySem.HandSPX PySem.Spec Builtin Builtin.ObjectAttr
section
variable {prog : Program} {w : World} {A : Around} {R : Result → Shared → Prop} {s : Shared} {K : Frag} {mg mb : Str → Option Value} {C fI : Addr} {qual : Str}
theorem look_2 {f f' : Str} {v v' x : Value} (hf : OkN f) (hf' : OkN f') (ne : (f == f') = false) : (fun y => [(("self" : Str), x), (f, v), (f', v')].reverse.lookup y) f = some v ∧ (fun y => [(("self" : Str), x), (f, v), (f', v')].reverse.lookup y) f' = some v' ∧
    (fun y => [(("self" : Str), x), (f, v), (f', v')].reverse.lookup y) ("self" : Str) = some x := by
  have h2 := nesym hf.sf
  have h3 := nesym hf'.sf
  refine ⟨?_, ?_, ?_⟩ <;> simp [List.lookup, h2, h3, ne]
theorem init2 {f f' : Str} {p : P2} (T : ExT K prog C fI [f, f'] qual (iA2 f f' p) (iB2 f f' p) (iS2 f f')) (tx : Tx2 f f' p) {x t0 : Addr} {v v' : Value} (X : K.In s.heap) (hlim : s.heap.NoLimit) (hG : s.heap.Ns mainGlobals mg) (hB : s.heap.Ns builtinsNs mb) (hb : mb "super" = bootBuiltins "super")
    (hx : s.heap.get? x = some (excO C t0)) (hnx : K.lookup x = none) (hroom : A.depth < recursionLimit)
    (hq : ∀ h' tk dx t1, InitEnd s.heap h' x C dx t1 (fun y => if y = f' then some v' else if y = f then some v else none) → R (.ok (.ret .none)) { s with heap := h', toks := tk }) :
    codeAny (model prog w) A (.call (.ref fI) ⟨[.ref x, v, v'], []⟩) R s := by
  have hf := tx.n
  have hf' := tx.n'
  have ne := tx.ne
  obtain ⟨oc, od, doc, pm, kV, an, cda, cc, ct, osl, ccl, cdd, vs, ccs, file, tf, cl, cld, csl, lf, hcd, lcd, hvs, hfile, lcc⟩ := T.fn
  obtain ⟨cd, bm, hcl, hmro, hve, hhd, hal⟩ := T.clsIn_
  have l1 : (iS2 f f').names.lookup ("self" : Str) = some .local := by unfold iS2; rfl
  have l2 : (iS2 f f').names.lookup f = some .local := by
    unfold iS2
    show List.lookup f ((("self" : Str), NameKind.local) :: _) = _
    simp [List.lookup, hf.sf]
  have l5 : (iS2 f f').names.lookup f' = some .local := by
    unfold iS2
    show List.lookup f' ((("self" : Str), NameKind.local) :: (f, NameKind.local) :: _) = _
    simp [List.lookup, hf'.sf, nesym ne]
  have l3 : (iS2 f f').names.lookup ("super" : Str) = some .globalImplicit := by
    unfold iS2
    have e := nesym hf.su
    have e' := nesym hf'.su
    show List.lookup ("super" : Str) [(("self" : Str), NameKind.local), (f, .local), (f', .local), (("__class__" : Str), .free), (("super" : Str), .globalImplicit)] = _
    simp only [List.lookup, e, e']
    rfl
  have l4 : (iS2 f f').names.lookup ("__class__" : Str) = some .free := by
    unfold iS2
    have e := nesym hf.cl
    have e' := nesym hf'.cl
    show List.lookup ("__class__" : Str) [(("self" : Str), NameKind.local), (f, .local), (f', .local), (("__class__" : Str), .free), (("super" : Str), .globalImplicit)] = _
    simp only [List.lookup, e, e']
    rfl
  refine ks_codeAny_call_defAt (fd := ksFn "__init__" qual (iA2 f f' p) (iB2 f f' p) (iS2 f f') .none kV doc pm an (.ref cda) ct cc) (body := iB2 f f' p) (binds := [("self", .ref x), (f, v), (f', v')]) hroom (X _ _ lf) rfl hlim (codeRec_of X hcd) rfl (BindsTo.of_eq (tx.bd _ _ _ _ _ _ _ _ _ _ _)) ?_ ?_ (fun h₁ hns hk₁ => ?_) rfl rfl rfl
  · intro y hy
    have hy : y ∈ [(("self" : Str), NameKind.local), (f, .local), (f', .local), (("__class__" : Str), .free), (("super" : Str), .globalImplicit)] := hy
    simp only [List.mem_cons, List.not_mem_nil, or_false] at hy
    rcases hy with rfl | rfl | rfl | rfl | rfl <;> exact fun z => by cases z
  · intro y hy
    simp only [List.mem_cons, List.not_mem_nil, or_false] at hy
    rcases hy with rfl | rfl | rfl
    · exact l1
    · exact l2
    · exact l5
  obtain ⟨g1, g3, g2⟩ := look_2 (f := f) (f' := f') (v := v) (v' := v') (x := .ref x) hf hf' ne
  have hxL : s.heap.objs.size ≠ x := Nat.ne_of_gt (Heap.lt_size hx)
  have X₁ : K.In h₁ := X.keeps hk₁
  have hx₁ := hk₁ _ _ hx
  show _root_.PySem.wpAt _ _ _ (execs (iB2 f f' p) (ksEnv qual (iS2 f f') s.heap.objs.size fI (.ref cda) cc)) _ _ _
  obtain ⟨pl, hcall⟩ := tx.cl qual s.heap.objs.size fI (.ref cda) cc
  refine ks_wpAt_execs_cons ?_
  refine sup_stage (mg := mg) (mb := mb) (m := fun y => [(("self" : Str), Value.ref x), (f, v), (f', v')].reverse.lookup y) (rest := [v, v']) T lf lcd hvs hfile lcc X₁ (hG.keeps hk₁) (hB.keeps hk₁) hb hx₁ hnx hns rfl g2 l3 l4 l1 rfl (sz (show 2 ≤ 3 by decide)) rfl rfl ?_ rfl rfl hcall ?_
  · intro s1 Q' k1 q
    show wpAny _ _ (spliced ((false, eval (.Name f p.c0) _) :: (false, _) :: [])) _ _ _
    exact spliced_cons (ldK (hns.keeps k1) g1 (spliced_cons (ldK (hns.keeps k1) g3 (spliced_nil q) rfl l5 hf'.db)) rfl l2 hf.db)
  intro h2 tk t1 k2 hx2
  have X₂ : K.In h2 := kept_but X₁ hnx k2
  have hn2 : h2.Ns s.heap.objs.size _ := Ns_keep hns hxL k2
  refine ks_wpAt_execs_cons (wpAt_of_wpAny (plainObj_wpAny_Assign_Attribute ?_ rfl))
  refine ldK (v := v) hn2 g1 (ldK (v := .ref x) hn2 g2 ?_ rfl l1 (by decide)) rfl l2 hf.db
  refine set_plain X₂ (ox := excO C t1) (od := none) ⟨hx2, rfl, rfl, trivial⟩ T.sa ?_
  refine exc_osa X₂ hx2 hcl hve hhd (T.noN f (List.mem_cons_self)) (fun h₃ tk₃ dx k₃ dn dne hx₃ hn₃ => ?_)
  have X₃ : K.In h₃ := kept_but X₂ hnx k₃
  have hn3 : h₃.Ns s.heap.objs.size _ := Ns_keep hn2 hxL k₃
  refine ks_wpAt_execs_cons (wpAt_of_wpAny (plainObj_wpAny_Assign_Attribute ?_ rfl))
  refine ldK (v := v') hn3 g3 (ldK (v := .ref x) hn3 g2 ?_ rfl l1 (by decide)) rfl l5 hf'.db
  have z : s.heap.objs.size < h2.objs.size := hn2.lt
  have hw1 : Within (fun y => if y = f then some v else none) [f] := Within.cons f v Within.nil
  obtain ⟨oD, esD, epD, hoD, hdD, hcD⟩ := hn₃.count hw1
  refine set_plain X₃ (ox := { cls := .ref C, dict := some dx, data := .fields #[.ref t1, .none, .none, .none, .bool false, .none] }) (od := some oD) ⟨hx₃, rfl, rfl, hoD⟩ T.sa ?_
  refine osaV_old X₃ hx₃ hn₃ hw1 (show 1 ≤ 1000 by decide) hcl hve hhd (T.noN f' (List.mem_cons_of_mem _ List.mem_cons_self)) (fun h₄ tk₄ k₄ hn₄ => ?_)
  have ndx : ∀ b o, s.heap.get? b = some o → b ≠ dx := fun b o e q => by
    have h1 := Heap.lt_size e
    rw [q] at h1
    exact absurd (Nat.lt_of_lt_of_le (Nat.lt_trans h1 z) dn) (Nat.lt_irrefl _)
  exact wpAt_of_wpAny (wpAny_execs_nil (hq h₄ tk₄ dx t1 ⟨fun b o hb e => k₄ b o (ndx b o e) (k₃ b o hb (k2 b o hb (hk₁ b o e))), k₄ _ _ dne.symm hx₃, Nat.le_of_lt (Nat.lt_of_lt_of_le z dn), dne, hn₄⟩))

/-- the class called: a new exception -/
theorem made {fs : List Str} {pa : Arguments} {bd : List Stmt} {sc : Scope} {vs : List Value} {mA : Str → Option Value} (T : ExT K prog C fI fs qual pa bd sc) (X : K.In s.heap) (hlim : s.heap.NoLimit) (hG : s.heap.Ns mainGlobals mg) (hB : s.heap.Ns builtinsNs mb) (hb : mb "super" = bootBuiltins "super") (hroom : A.depth + 1 < recursionLimit) (hz : vs.length ≤ sizeLine)
    (hinit : ∀ (A : Around) (R : Result → Shared → Prop) (s : Shared) (x t0 : Addr), K.In s.heap → s.heap.NoLimit → s.heap.Ns mainGlobals mg → s.heap.Ns builtinsNs mb → s.heap.get? x = some (excO C t0) → K.lookup x = none → A.depth < recursionLimit →
      (∀ h' tk dx t1, InitEnd s.heap h' x C dx t1 mA → R (.ok (.ret .none)) { s with heap := h', toks := tk }) → codeAny (model prog w) A (.call (.ref fI) ⟨.ref x :: vs, []⟩) R s)
    (hq : ∀ h' tk e d, Made s.heap h' e C d mA → R (.ok (.ret (.ref e))) { s with heap := h', toks := tk }) :
    codeAny (model prog w) A (.call (.ref C) ⟨vs, []⟩) R s := by
  obtain ⟨nm, q, N, bs, bm, sn, sub, ab, col, dd, k0, k1, k2, k3, k5, hC, hbm, _⟩ := T.cls
  obtain ⟨hp, g, dr, tk, os⟩ := s
  have k : ∀ b o, hp.get? b = some o → ((hp.push (kdv_tup vs)).push (excO C hp.objs.size)).get? b = some o := fun b o e => Heap.get?_push_of_some _ (Heap.get?_push_of_some _ e)
  have hget : ((hp.push (kdv_tup vs)).push (excO C hp.objs.size)).get? (hp.objs.size + 1) = some (excO C hp.objs.size) := by heap_get
  have hnx : K.lookup (hp.objs.size + 1) = none := by
    cases e : K.lookup (hp.objs.size + 1) with
    | none => rfl
    | some o =>
      have z : hp.get? (hp.objs.size + 1) = some o := X _ _ e
      exact absurd (Nat.lt_of_succ_lt (Heap.lt_size z)) (Nat.lt_irrefl _)
  refine call_own F.excBase_ValueError (fun X => refsVE_contains X bm hbm) (X _ _ hC) (looks_findIn X T.iC) (fun self => bind_fn X self T.tC) hz ?_
  refine hinit _ _ ⟨(hp.push (kdv_tup vs)).push (excO C hp.objs.size), g, dr, tk, os⟩ _ _ (X.keeps k) (hlim.keeps k) (hG.keeps k) (hB.keeps k) hget hnx (by show A.depth + 1 < recursionLimit; exact hroom) fun h' tk' dx t1 ⟨k', hx, dn, dne, hns⟩ => ?_
  have old : ∀ b o, hp.get? b = some o → h'.get? b = some o := fun b o e => k' b o (Nat.ne_of_lt (Nat.lt_succ_of_lt (Heap.lt_size e))) (k b o e)
  have z : hp.objs.size + 1 + 1 ≤ dx := by
    first
      | (simpa only [Heap.size_push] using dn)
      | exact dn
      | (have q := dn; rw [Heap.size_push, Heap.size_push] at q; exact q)
  exact ⟨rfl, hq h' tk' (hp.objs.size + 1) dx ⟨old, Nat.le_succ _, ⟨_, _, hx, rfl, rfl, rfl, rfl⟩, Nat.le_trans (Nat.le_trans (Nat.le_succ _) (Nat.le_succ _)) z, dne, hns⟩⟩
end
end MX
namespace L2
open PySem PySem.Spec PyProof.Rows
theorem relO_nil (g : Str) : RelO (List.lookup g ([] : List (Str × V))) none := True.intro
theorem relO_put' {f : Str} {y : V} {u : Value} {fs : List (Str × V)} {mA : Str → Option Value} (ry : RelV y u) (r : ∀ g, RelO (fs.lookup g) (mA g)) (g : Str) : RelO (((f, y) :: fs).lookup g) (if g = f then some u else mA g) := by
  by_cases hw : g = f
  · subst hw
    rw [if_pos rfl]
    have q : List.lookup g ((g, y) :: fs) = some y := by simp [List.lookup]
    rw [q]
    exact ry
  · rw [if_neg hw]
    have qw : (g == f) = false := by simpa using hw
    have q2 : List.lookup g ((f, y) :: fs) = fs.lookup g := by simp [List.lookup, qw]
    rw [q2]
    exact r g
/-- C(args): xd vs: the fields, the last one first; ma: the same in the heap -/
def tMkX (C : Addr) (xd : List V → Option (List (Str × V))) (ta : TA) : St → Hp → XK → Prop := fun σ H Q => ta σ H fun vs H1 => ∃ fs, xd vs = some fs ∧ ∀ d, H1 d = none → Q (.ref C) (some d) (upd H1 d (.xd fs))
section
variable {X : Cx} {C fI : Addr} {fs : List Str} {qual : Str} {pa : Arguments} {bd : List Stmt} {sc : Scope}
theorem pmk_x {x : Str} {a : Expr} {es : List Expr} {ta : TA} {p pos : Pos} {k : Nat} {xd : List V → Option (List (Str × V))} (T : MX.ExT X.K X.prog C fI fs qual pa bd sc) (hr : Room k X.A) (hg : Gl X x) (hm : X.mg x = some (.ref C)) (ha : PA X (a :: es) ta)
    (hin : ∀ (vs : List V) (us : List Value) (xs : List (Str × V)), Vals vs us → xd vs = some xs → us.length ≤ 3 ∧ ∃ mA : Str → Option Value, (∀ g, RelO (xs.lookup g) (mA g)) ∧
      ∀ (mb : Str → Option Value), mb "super" = bootBuiltins "super" → ∀ (A : Around) (R : Result → Shared → Prop) (s : Shared) (x t0 : Addr), X.K.In s.heap → s.heap.NoLimit → s.heap.Ns mainGlobals X.mg → s.heap.Ns builtinsNs mb → s.heap.get? x = some (HandSPX.excO C t0) → X.K.lookup x = none → A.depth < recursionLimit →
      (∀ h' tk dx t1, MX.InitEnd s.heap h' x C dx t1 mA → R (.ok (.ret .none)) { s with heap := h', toks := tk }) → codeAny (model X.prog X.w) A (.call (.ref fI) ⟨.ref x :: us, []⟩) R s)
    (he : starEach (a :: es) X.env = (false, eval a X.env) :: starEach es X.env := by rfl) (hpl : (backTo pos (starEach es X.env)).any (·.1) = false := by rfl) (hdb : (x == ("__debug__" : Str)) = false := by decide) :
    PMk X (.Call (.Name x p) (a :: es) [] pos) (tMkX C xd ta) := by
  intro pins s σ H Q I h
  refine wpAny_Call_Name_kw (ld_glob I hg hm ?_ hdb)
  refine PySem.W.callWith_K (h₀ := X.base) I.ok.mod.kin T.kC (thn (ha.run pos pins s σ H _ I h) fun us s1 hh => ?_) he hpl
  obtain ⟨vs, H1, I1, r1, xs, ev, q1⟩ := hh
  refine ⟨I1.kIn, ?_⟩
  obtain ⟨hl, mA, hrel, hin2⟩ := hin vs us xs r1 ev
  show wpAny _ _ (call (.ref C) us) _ _ _
  have hlim := I1.nolimit
  obtain ⟨mb, hb1, hb2⟩ := I1.mod.blt
  have bk := I1.bk
  have hG := I1.mod.glob.keeps bk
  have hB := hb1.keeps bk
  obtain ⟨hp, g, dr, tk, os⟩ := s1
  refine wpAny_call (MX.made (mg := X.mg) (mb := mb) T I1.kIn hlim hG hB (hb2 _ (by decide)) (by have := hr.dp; omega) (MX.sz hl) (hin2 mb (hb2 _ (by decide))) fun h' tk' e d M => ?_)
  show MkP X pins σ Q (.ref e) ⟨h', g, dr, tk', os⟩
  obtain ⟨oe, fv, hoe, hc, hd, hdat, h1⟩ := M.obj
  have hns := M.ns
  obtain ⟨G', g1, g2⟩ := restrict h' fun b => decide (b ≠ e)
  have gk : ∀ b, b ≠ e → G'.get? b = h'.get? b := fun b hb => g1 b (decide_eq_true hb)
  have ge : G'.get? e = none := g2 e (by simp)
  have old : ∀ b o, hp.get? b = some o → G'.get? b = some o := fun b o q => (gk b (Nat.ne_of_lt (Nat.lt_of_lt_of_le (Heap.lt_size q) M.new))).trans (M.keep b o q)
  have ob : ObjOk X.prog X.w (upd H1 d (.xd xs)) G' d (.xd xs) :=
    ⟨_, hns.at (fun o q => (gk d M.dne).trans q), fun f => hrel f⟩
  have J : Inv X pins σ (upd H1 d (.xd xs)) ⟨G', g, dr, tk', os⟩ := I1.laid (t' := tk') old M.dbig ob
  refine ⟨e, oe, fv, ⟨G', g, dr, tk', os⟩, _, .ref C, some d, rfl, J, fun b o q => ?_, ge, hoe, ⟨hc, hd⟩, hdat, h1, ?_, rfl, I1.bare, raises_own T.xf.exC T.tyC, q1 d (I1.hok.fresh M.dbig)⟩
  · by_cases hb : b = e
    · have q' : G'.get? b = some o := q
      rw [hb, ge] at q'; cases q'
    · exact (gk b hb).symm.trans q
  · rw [upd_ne (Ne.symm M.dne)]
    exact I1.hok.fresh M.new
end
end L2
end

section
set_option Elab.async false
set_option linter.all false
set_option maxRecDepth 100000
set_option autoImplicit false
set_option maxHeartbeats 1000000
namespace Mi
open PySem PySem.Spec PyProof.Rows L2

/-! ## raise of an own exception -/
class OkR (W : XK) (X : Cx) : Prop where
  takes : Takes X (fun cls d _ H => W cls d H)
/-- C(a): the field f -/
def sRaise1 (cid f : Nat) (c : Es) : Sm := fun e m => (c e m).toS fun ds m1 => match ds with
  | [d] => .err ⟨cid, [(f, d)]⟩ m1
  | _ => .bad
/-- C(a, b): the fields f, g -/
def sRaise2 (cid f g : Nat) (c : Es) : Sm := fun e m => (c e m).toS fun ds m1 => match ds with
  | [d, d'] => .err ⟨cid, [(g, d'), (f, d)]⟩ m1
  | _ => .bad
def xd1 (f : Str) : List V → Option (List (Str × V))
  | [v] => some [(f, v)]
  | _ => none
def xd2 (f g : Str) : List V → Option (List (Str × V))
  | [v, u] => some [(g, u), (f, v)]
  | _ => none
section
variable {X : Cx} {S : Sg} {W : XK} {k : Nat}
theorem Post.raise {Z : Ends} {ρ : Rho} {H : Hp} {m : Mem} {x : Xn} {vs : List V} (h : PostS S W (.err x m) ρ H Z) (rm : RM S ρ H m) (r : RDs S.K ρ H (x.fs.map (·.2)) vs) (hn : ∀ p ∈ x.fs, p.1 < S.nf) (d : Addr) (hd : H d = none) :
    W (.ref (S.ca x.cls)) (some d) (upd H d (.xd ((x.fs.map fun p => S.fn p.1).zip vs))) :=
  h _ _ _ _ (ext_upd (none_fix hd)) (rm.free hd) ⟨rfl, d, vs, rfl, upd_same, r.ext (ext_upd (none_fix hd)), hn⟩
theorem ms_raise1 [c : Ok S W X k] [t : OkR W X] {x f : Str} {cid fid : Nat} {fI : Addr} {qual : Str} {a : Expr} {cs : Es} {p pos pos2 : Pos} {q : MX.P1} (T : MX.ExT X.K X.prog (S.ca cid) fI [f] qual (MX.iA1 f q) (MX.iB1 f q) (MX.iS1 f)) (tx : MX.Tx1 f q) (hg : Gl X x) (hm : X.mg x = some (.ref (S.ca cid))) (ha : PA X [a] (IA S W cs))
    (hf : f = S.fn fid) (hi : fid < S.nf) (he : starEach (a :: []) X.env = (false, eval a X.env) :: starEach [] X.env := by rfl) (hpl : (backTo pos (starEach [] X.env)).any (·.1) = false := by rfl) (hdb : (x == ("__debug__" : Str)) = false := by decide) :
    PS X (.Raise (some (.Call (.Name x p) [a] [] pos)) none pos2) (IS S W (sRaise1 cid fid cs)) := by
  refine PS.mono (ps_raise c.calm t.takes (pmk_x (xd := xd1 f) T c.room hg hm ha (fun vs us xs r e => ?_) he hpl hdb)) fun Z σ H ⟨ρ, e, m, sr, rm, h⟩ => ?_
  · cases r with
    | nil => cases e
    | cons r1 r2 =>
      cases r2 with
      | cons r3 r4 => cases e
      | nil =>
        cases e
        refine ⟨(show 1 ≤ 3 by decide), _, fun g => relO_put' r1 relO_nil g, fun mb hb A R s x t0 X1 hl hG hB hx hnx hr hq => MX.init1 T tx X1 hl hG hB hb hx hnx hr hq⟩
  · refine (IA.toS (c := cs) sr rm h).mono fun vs H1 ⟨ρ1, ds, m1, N, h1⟩ => ?_
    match ds, N, h1 with
    | [d], N, h1 =>
      obtain ⟨v, u, e1, r1, r2⟩ := N.rel.of_cons
      subst e1
      have e2 := r2.of_nil
      subst e2
      refine ⟨_, rfl, fun d hd => ?_⟩
      have h2 := Post.raise (vs := [v]) h1 N.rm (RDs.cons r1 RDs.nil) (fun p hp => by cases hp with | head => exact hi | tail _ hp => cases hp) d hd
      rw [hf]
      exact h2
    | [], N, h1 => exact h1.elim
    | _ :: _ :: _, N, h1 => exact h1.elim
theorem ms_raise2 [c : Ok S W X k] [t : OkR W X] {x f g : Str} {cid fid gid : Nat} {fI : Addr} {qual : Str} {a b : Expr} {cs : Es} {p pos pos2 : Pos} {q : MX.P2} (T : MX.ExT X.K X.prog (S.ca cid) fI [f, g] qual (MX.iA2 f g q) (MX.iB2 f g q) (MX.iS2 f g)) (tx : MX.Tx2 f g q) (hg : Gl X x) (hm : X.mg x = some (.ref (S.ca cid))) (ha : PA X [a, b] (IA S W cs))
    (hf : f = S.fn fid) (hf' : g = S.fn gid) (hi : fid < S.nf) (hi' : gid < S.nf) (he : starEach (a :: [b]) X.env = (false, eval a X.env) :: starEach [b] X.env := by rfl) (hpl : (backTo pos (starEach [b] X.env)).any (·.1) = false := by rfl) (hdb : (x == ("__debug__" : Str)) = false := by decide) :
    PS X (.Raise (some (.Call (.Name x p) [a, b] [] pos)) none pos2) (IS S W (sRaise2 cid fid gid cs)) := by
  refine PS.mono (ps_raise c.calm t.takes (pmk_x (xd := xd2 f g) T c.room hg hm ha (fun vs us xs r e => ?_) he hpl hdb)) fun Z σ H ⟨ρ, e, m, sr, rm, h⟩ => ?_
  · cases r with
    | nil => cases e
    | cons r1 r2 =>
      cases r2 with
      | nil => cases e
      | cons r3 r4 =>
        cases r4 with
        | cons r5 r6 => cases e
        | nil =>
          cases e
          refine ⟨(show 2 ≤ 3 by decide), _, fun g => relO_put' r3 (fun g => relO_put' r1 relO_nil g) g, fun mb hb A R s x t0 X1 hl hG hB hx hnx hr hq => MX.init2 T tx X1 hl hG hB hb hx hnx hr hq⟩
  · refine (IA.toS (c := cs) sr rm h).mono fun vs H1 ⟨ρ1, ds, m1, N, h1⟩ => ?_
    match ds, N, h1 with
    | [d, d'], N, h1 =>
      obtain ⟨v, t1, e1, r1, r2⟩ := N.rel.of_cons
      obtain ⟨u, t2, e2, r3, r4⟩ := r2.of_cons
      subst e1
      subst e2
      have e3 := r4.of_nil
      subst e3
      refine ⟨_, rfl, fun d hd => ?_⟩
      have h2 := Post.raise (vs := [u, v]) h1 N.rm (RDs.cons r3 (RDs.cons r1 RDs.nil)) (fun p hp => by cases hp with | head => exact hi' | tail _ hp => (cases hp with | head => exact hi | tail _ hp => cases hp)) d hd
      rw [hf, hf']
      exact h2
    | [], N, h1 => exact h1.elim
    | [_], N, h1 => exact h1.elim
    | _ :: _ :: _ :: _, N, h1 => exact h1.elim
end

/-! ## A def -/
/-- a def by its body: N slots -/
def fnM (N : Nat) (c : Sm) : Fn := fun ds m => match c (ds.map some ++ List.replicate (N - ds.length) none) m with
  | .rt d m1 => .ok d m1
  | .nx _ m1 => .ok .non m1
  | .err x m1 => .err x m1
  | .bk _ _ => .bad
  | .ct _ _ => .bad
  | .bad => .bad
theorem SR.start {S : Sg} {ρ : Rho} {H : Hp} {ds : List D} {vs : List V} {N : List Str} (r : RDs S.K ρ H ds vs) : SR S ρ H (L2.start N vs) (ds.map some ++ List.replicate (N.length - ds.length) none) := by
  have hl := r.length
  refine ⟨by unfold L2.start; simp [hl], fun i d q => ?_⟩
  unfold L2.start
  by_cases hi : i < ds.length
  · rw [List.getElem?_append_left (by simpa using hi), List.getElem?_map] at q
    cases e : ds[i]? with
    | none =>
      rw [e] at q
      cases q
    | some d' =>
      rw [e] at q
      cases q
      obtain ⟨v, h1, h2⟩ := r.get e
      exact ⟨v, by rw [List.getElem?_append_left (by rw [List.length_map, ← hl]; exact hi), List.getElem?_map, h1]; rfl, h2⟩
  · rw [List.getElem?_append_right (by simpa using hi)] at q
    rw [List.getElem?_replicate] at q
    split at q <;> cases q
section
variable {P : Program} {w : World} {S : Sg} {mg : Str → Option Value} {base : Heap} {x qual : Str} {params : Arguments} {body : List Stmt} {scope : Scope} {dvs : List V} {kws : List (Str × V)} {f : Addr} {fd : FuncData} {N ps : List Str} {k : Nat} {c : Sm}
/-- THE RULE for a def -/
theorem fn_ok (F : FunD S.K x qual params body scope dvs kws f fd) (Sc : FnScope N ps scope) (inj : ∀ i j, i < S.nf → j < S.nf → S.fn i = S.fn j → i = j)
    (hbody : ∀ (cdv : Value) (A : Around) (outer : List Env) (s : Shared) (H : Hp) (E : XK) [Ok S E (cxOf (L2.CX P w) P w S.K mg base N qual scope f cdv A outer s H E) k] [OkR E (cxOf (L2.CX P w) P w S.K mg base N qual scope f cdv A outer s H E)],
      PSs (cxOf (L2.CX P w) P w S.K mg base N qual scope f cdv A outer s H E) body (IS S E c)) :
    FnOk P w S.K mg base (L2.CX P w) (k + 1) f fd ps (spF S (fnM N.length c) ps.length) := by
  refine F.ok Sc (fun vs H Q E h => spF_len h) fun cdv A outer s H vs Q E hr h => ?_
  have tk : Takes (cxOf (L2.CX P w) P w S.K mg base N qual scope f cdv A outer s H E) (fun cls d _ H => E cls d H) := takes_of rfl rfl rfl rfl
  have i1 : Ok S E (cxOf (L2.CX P w) P w S.K mg base N qual scope f cdv A outer s H E) k :=
    ⟨rfl, passes_call tk fun _ _ _ _ h => h, passes_of rfl, rfl, hr, inj⟩
  have i2 : OkR E (cxOf (L2.CX P w) P w S.K mg base N qual scope f cdv A outer s H E) := ⟨tk⟩
  refine ⟨_, hbody cdv A outer s H E, ?_⟩
  obtain ⟨ρ, ds, m, r, l, rm, h⟩ := h
  refine ⟨ρ, _, m, SR.start r, rm, ?_⟩
  have h' : PostV S E (match c (ds.map some ++ List.replicate (N.length - ds.length) none) m with
    | .rt d m1 => .ok d m1
    | .nx _ m1 => .ok .non m1
    | .err x m1 => .err x m1
    | .bk _ _ => .bad
    | .ct _ _ => .bad
    | .bad => .bad) ρ H Q := h
  revert h'
  cases c (ds.map some ++ List.replicate (N.length - ds.length) none) m with
  | rt d m1 => exact fun h' ρ2 H2 v x a b => h' ρ2 H2 v x a b
  | nx e m1 => exact fun h' ρ2 H2 σ2 x a b => h' ρ2 H2 .non x a RD.non
  | err x m1 => exact fun h' => h'
  | bk e m1 => exact fun h' => h'.elim
  | ct e m1 => exact fun h' => h'.elim
  | bad => exact fun h' => h'.elim
end
end Mi
end

section
set_option Elab.async false
set_option linter.all false
set_option maxRecDepth 100000
set_option autoImplicit false
set_option maxHeartbeats 2000000
/-! Lambdas made at run time, with or without one default: made, called once by the def that gets them. -/
namespace Lm
open PySem PySem.Spec PyProof.Rows L2 LamX
/-- its: the defaults' values, dV: what the function object holds of them -/
def Dfl (h : Heap) (H : Hp) (fs : List Addr) (dV : Value) (its : List Value) : Prop := (dV = .none ∧ its = []) ∨ ∃ T, dV = .ref T ∧ its ≠ [] ∧ h.get? T = some (PySem.W.kdv_tup its) ∧ H T = none ∧ T ∉ fs
section
variable {X : Cx} {pins : List (Addr × Obj)} {σ : L2.St} {H : Hp} {s : Shared}
theorem nofr (I : Inv X pins σ H s) : ∀ f, s.heap.objs.size ≤ f → f ∉ frs X.stack := fun f hf z => by
  rcases List.mem_cons.mp (I.stkSub _ z) with e | e
  · have h1 := I.lt
    rw [← e] at h1
    exact Nat.lt_irrefl _ (Nat.lt_of_lt_of_le h1 hf)
  · exact I.nofs hf e
/-- what stands behind the making -/
structure MadeL (X : Cx) (pins : List (Addr × Obj)) (σ : L2.St) (H : Hp) (s : Shared) (T : List (Addr × Str)) (params : Arguments) (body : Expr) (scope : Scope) (dV : Value) (f c' : Addr) (doc pm ctv : Value) (H1 : Hp) (s' : Shared) : Prop where
  inv : Inv X pins σ H1 s'
  ext : ExtN H H1
  tabs : Tabs T H1
  obj : s'.heap.get? f = some (PySem.W.kdv_obj "<lambda>" (X.env.qual ++ "<lambda>") params (.expr body) scope (cloFrom X.env.cells scope.names []) dV doc pm c' ctv)
  fn : H1 f = none
  fr : f ∉ frs X.stack
  co : H1 c' = some (CodeO c' (X.env.qual ++ "<lambda>"))
  old : ∀ b o, s.heap.get? b = some o → H b = none → s'.heap.get? b = some o ∧ H1 b = none
theorem lam_tail {T : List (Addr × Str)} {c P : Addr} {params : Arguments} {body : Expr} {scope : Scope} {pos : Pos} {dV : Value} {E : Value → Shared → Prop} {Q : Value → Shared → Prop} (I : Inv X pins σ H s) (TB : TabB X.base X.mg c P) (hcode : X.env.code = .ref c)
    (hm : (P, X.env.qual ++ "<lambda>") ∈ T) (hu : ∀ p ∈ T, p.1 = P → p.2 = X.env.qual ++ "<lambda>") (hT : Tabs T H) (hfree : ∀ y ∈ scope.names, y.2 = .free → ∃ c, X.env.cells.lookup y.1 = some c)
    (h : ∀ (f c' : Addr) (doc pm ctv : Value) (H1 : Hp) (s' : Shared), MadeL X pins σ H s T params body scope dV f c' doc pm ctv H1 s' → Q (.ref f) s') :
    wpAny (model X.prog X.w) X.A (makeTail "<lambda>" (X.env.qual ++ "<lambda>") params (.expr body) scope X.env dV .none none pos pos.line) Q E s := by
  obtain ⟨ps, hP, ht, ha⟩ := hT _ hm
  have bP : s.heap.BuiltinsAt X.mg P := TB.bm.keeps I.bk
  have hP' : s.heap.get? P = some { cls := .none, data := .fields ps } := I.hok P _ hP
  have nf := nofr I
  cases hc : codeAmong pos ps.toList with
  | none =>
    refine PySem.W.kdv_makeTail (mg := X.mg) (c := c) (P := P) (ps := ps) (closure_ok hfree) I.ok.glob (I.mod.glob.keeps I.bk) hcode (TB.code.keeps I.bk) hP' ht hc TB.gP bP fun c' ctv doc h' tk hx hge hlt hrec htb => ?_
    obtain ⟨c2, oc, vs, t, e2, hoc, hd, hv⟩ := hrec
    cases e2
    have hsz : s.heap.objs.size ≤ h'.objs.size := Nat.le_trans hge (Nat.le_of_lt hlt)
    have nC : H c' = none := I.hok.fresh hge
    have I1 := inv_table (t' := tk) (more := #[rawInt pos.line, rawInt pos.col, .ref c']) (h' := h'.push (PySem.W.kdv_obj "<lambda>" (X.env.qual ++ "<lambda>") params (.expr body) scope (cloFrom X.env.cells scope.names []) dV doc ((X.mg "__name__").getD .none) c' ctv)) I hP
      (fun b o hb e => Heap.get?_push_of_some _ (hx b o hb e)) (Heap.get?_push_of_some _ htb) hge ⟨oc, vs, t, Heap.get?_push_of_some _ hoc, hd, hv⟩
    have hE : ExtN H (upd (upd H P (.tbl (ps ++ #[rawInt pos.line, rawInt pos.col, .ref c']))) c' (CodeO c' (X.env.qual ++ "<lambda>"))) := fun b o e n => by
      rw [upd_ne (ne_of_none e nC), upd_ne (fun z => n ps (Option.some.inj (e.symm.trans (by rw [z]; exact hP))))]
      exact e
    have eL : (ps ++ #[rawInt pos.line, rawInt pos.col, .ref c']).toList = ps.toList ++ [rawInt pos.line, rawInt pos.col, .ref c'] := by simp
    refine h h'.objs.size c' doc ((X.mg "__name__").getD .none) ctv _ _ ⟨I1, hE, fun p hp => ?_, Heap.get?_push_size _ rfl, ?_, nf _ hsz, upd_same, fun b o e n => ?_⟩
    · by_cases hb : p.1 = P
      · rw [hu p hp hb, hb]
        refine ⟨_, by rw [upd_ne (ne_of_none hP nC), upd_same], by rw [eL]; exact PySem.TriplesOk_snoc _ _ _ _ ht, fun p' cv hcv => ?_⟩
        rw [eL] at hcv
        rcases among_app _ ht hcv with z | z
        · obtain ⟨c0, e1, e2⟩ := ha p' cv z
          exact ⟨c0, e1, hE _ _ e2 codeO_ne⟩
        · exact ⟨c', z, upd_same⟩
      · obtain ⟨ps', a1, a2, a3⟩ := hT p hp
        refine ⟨ps', by rw [upd_ne (ne_of_none a1 nC), upd_ne hb]; exact a1, a2, fun p' cv hcv => ?_⟩
        obtain ⟨c0, e1, e2⟩ := a3 p' cv hcv
        exact ⟨c0, e1, hE _ _ e2 codeO_ne⟩
    · have n1 : h'.objs.size ≠ c' := Nat.ne_of_gt hlt
      have n2 : h'.objs.size ≠ P := Nat.ne_of_gt (Nat.lt_of_lt_of_le (Heap.lt_size hP') hsz)
      rw [upd_ne n1, upd_ne n2]
      exact I.hok.fresh hsz
    · have nP : b ≠ P := fun z => by
        rw [z, hP] at n
        cases n
      have nc : b ≠ c' := fun z => by
        rw [z] at e
        exact Nat.lt_irrefl _ (Nat.lt_of_lt_of_le (Heap.lt_size e) hge)
      exact ⟨Heap.get?_push_of_some _ (hx b o nP e), by rw [upd_ne nc, upd_ne nP]; exact n⟩
  | some cv =>
    obtain ⟨c', e, hco⟩ := ha pos cv hc
    subst e
    refine PySem.W.kdv_makeTailHit (mg := X.mg) (c := c) (P := P) (ps := ps) (closure_ok hfree) I.ok.glob (I.mod.glob.keeps I.bk) hcode (TB.code.keeps I.bk) hP' ht hc bP fun ctv doc h' tk hx hsz => ?_
    have I1 : Inv X pins σ H { s with heap := h'.push (PySem.W.kdv_obj "<lambda>" (X.env.qual ++ "<lambda>") params (.expr body) scope (cloFrom X.env.cells scope.names []) dV doc ((X.mg "__name__").getD .none) c' ctv), toks := tk } := I.kept fun b o e => Heap.get?_push_of_some _ (hx b o e)
    exact h h'.objs.size c' doc ((X.mg "__name__").getD .none) ctv H _ ⟨I1, ExtN.refl H, hT, Heap.get?_push_size _ rfl, I.hok.fresh hsz, nf _ hsz, hco, fun b o e n => ⟨Heap.get?_push_of_some _ (hx b o e), n⟩⟩
/-- the defaults of the parameters: none, or one number -/
inductive Dk (params : Arguments) : List (Str × Int) → Prop where
  | none (h : params.defaults = []) (hk : params.kw_defaults = []) : Dk params []
  | one (x : Str) (i : Int) (j : Nat) (p : Pos) (h : params.defaults = [.Constant (.int i) j p]) (hk : params.kw_defaults = []) : Dk params [(x, i)]
theorem lam_make {T : List (Addr × Str)} {c P : Addr} {params : Arguments} {body : Expr} {scope : Scope} {pos : Pos} {dk : List (Str × Int)} {E : Value → Shared → Prop} {Q : Value → Shared → Prop} (I : Inv X pins σ H s) (TB : TabB X.base X.mg c P) (hcode : X.env.code = .ref c)
    (hm : (P, X.env.qual ++ "<lambda>") ∈ T) (hu : ∀ p ∈ T, p.1 = P → p.2 = X.env.qual ++ "<lambda>") (hT : Tabs T H) (hdef : Dk params dk) (hfree : ∀ y ∈ scope.names, y.2 = .free → ∃ c, X.env.cells.lookup y.1 = some c)
    (h : ∀ (dV : Value) (its : List Value) (f c' : Addr) (doc pm ctv : Value) (H1 : Hp) (s' : Shared) (sm : Shared), its.length = dk.length → MadeL X pins σ H sm T params body scope dV f c' doc pm ctv H1 s' → Dfl s'.heap H1 (frs X.stack) dV its → Q (.ref f) s') :
    wpAny (model X.prog X.w) X.A (eval (.Lambda params body scope pos) X.env) Q E s := by
  cases hdef with
  | none hd hk =>
    have e0 : defaultsOf params X.env = ([], []) := by
      rw [defaultsOf_eq, hd, hk]
      rfl
    refine PySem.W.kla_eval e0 ?_
    rw [makeFunction_eq]
    simp only [List.zip_nil_right, List.filterMap_nil, List.isEmpty_nil, if_true, pure_bind]
    exact lam_tail (dV := .none) I TB hcode hm hu hT hfree fun f c' doc pm ctv H1 s' M => h .none [] f c' doc pm ctv H1 s' s rfl M (.inl ⟨rfl, rfl⟩)
  | one x i j p hd hk =>
    refine PySem.W.kdv_lam (by rw [hd]; rfl) hk ?_
    rw [hd]
    refine PySem.W.kdv_all1 (thn ((pe_int (X := X) (i := i) (j := j) (pos := p)).run pins s σ H (fun v H1 => H1 = H) I rfl) fun u s1 ⟨v, H1, I1, r1, eH⟩ => PySem.W.kdv_all0 ?_)
    subst eH
    rw [makeFunction_eq]
    simp only [List.zip_nil_right, List.filterMap_nil, List.isEmpty_nil, List.isEmpty_cons, Bool.false_eq_true, if_false, if_true, pure_bind]
    refine wpAny_bind (wpAny_newTextTuple ?_)
    have I2 : Inv X pins σ H1 { s1 with heap := s1.heap.push { cls := .type "tuple", data := .seq [u].toArray } } := I1.kept (t' := s1.toks) fun b o e => Heap.get?_push_of_some _ e
    have nT : H1 s1.heap.objs.size = Option.none := I1.hok.fresh (Nat.le_refl _)
    have gT : (s1.heap.push { cls := .type "tuple", data := .seq [u].toArray }).get? s1.heap.objs.size = some (PySem.W.kdv_tup [u]) := Heap.get?_push_at rfl rfl
    refine lam_tail (dV := .ref s1.heap.objs.size) I2 TB hcode hm hu hT hfree fun f c' doc pm ctv H2 s' M => h _ [u] f c' doc pm ctv H2 s' _ rfl M (.inr ⟨_, rfl, List.cons_ne_nil _ _, ?_, ?_, nofr I1 _ (Nat.le_refl _)⟩)
    · exact (M.old _ _ gT nT).1
    · exact (M.old _ _ gT nT).2
end
end Lm
end

section
set_option Elab.async false
set_option linter.all false
set_option maxRecDepth 100000
set_option autoImplicit false
set_option maxHeartbeats 2000000
namespace Lm
open PySem PySem.Spec PyProof.Rows L2 LamX
/-- the lambda's names: parameters that are no names of the def around it, captured ones, globals -/
structure LamS2 (N : List Str) (sc scope : Scope) : Prop where
  kind : scope.kind = .function
  co : scope.isCoroutine = false
  gen : scope.isGenerator = false
  nocell : ∀ y ∈ scope.names, y.2 ≠ .cell
  loc : ∀ x ∈ N, scope.names.lookup x ≠ some .local
  free : ∀ y ∈ scope.names, y.2 = .free → sc.names.lookup y.1 = some .cell ∨ sc.names.lookup y.1 = some .free
def lamS2B (N : List Str) (sc scope : Scope) : Bool :=
  decide (scope.kind = .function) && !scope.isCoroutine && !scope.isGenerator && (scope.names.all fun y => !decide (y.2 = .cell) && (!decide (y.2 = .free) || decide (sc.names.lookup y.1 = some .cell) || decide (sc.names.lookup y.1 = some .free))) && N.all fun x => !decide (scope.names.lookup x = some .local)
theorem lamS2_by {N : List Str} {sc scope : Scope} (h : lamS2B N sc scope = true) : LamS2 N sc scope := by
  unfold lamS2B at h
  simp only [Bool.and_eq_true, Bool.or_eq_true, Bool.not_eq_true', decide_eq_true_eq, decide_eq_false_iff_not, List.all_eq_true] at h
  obtain ⟨⟨⟨⟨h1, h2⟩, h3⟩, h4⟩, h5⟩ := h
  refine ⟨h1, h2, h3, fun y hy => (h4 y hy).1, h5, fun y hy e => ?_⟩
  rcases (h4 y hy).2 with (z | z) | z
  · exact absurd e z
  · exact .inl z
  · exact .inr z
theorem LamS2.has {X : Cx} {scope : Scope} (L : LamS2 X.N X.env.scope scope) (ok : X.Ok) : ∀ y ∈ scope.names, y.2 = .free → ∃ c, X.env.cells.lookup y.1 = some c := fun y hy e => by
  rcases L.free y hy e with k | k
  · exact ok.has _ (.inl k)
  · exact ok.has _ (.inr k)
section
variable {X : Cx} {pins : List (Addr × Obj)} {σ : L2.St} {H HZ : Hp} {s s1 : Shared}
theorem lam_start3 {A : Around} {outer : List Env} {E : XK} {scope : Scope} {f c' : Addr} {h₁ : Heap} {tk : Nat} {mL : Str → Option Value} (I : Inv X pins σ H s) (L : LamS2 X.N X.env.scope scope) (e0 : Env0 X.prog X.w X.K X.mg X.base A outer s1 HZ) (hd : A.handled = none)
    (un : Un (frs X.stack) [] H HZ s.heap s1.heap) (hns : h₁.Ns s1.heap.objs.size mL) (kp : ∀ b o, s1.heap.get? b = some o → h₁.get? b = some o) :
    Inv (lamCx X A outer s1 HZ E scope f c') [] σ HZ { s1 with heap := h₁, toks := tk } := by
  have hfree := L.has I.ok
  have cm : ∀ {y c}, (cloFrom X.env.cells scope.names []).lookup y = some c → X.env.cells.lookup y = some c := fun {y c} e => by
    rcases cloFrom_mem (PySem.mem_of_lookup e) with hm | ⟨h1, h2⟩
    · cases hm
    · obtain ⟨c1, hc⟩ := hfree _ h1 rfl
      have hc : X.env.cells.lookup y = some c1 := hc
      have e2 : c = c1 := by
        rw [h2, hc] <;> rfl
      rw [e2]
      exact hc
  have look : ∀ {y}, scope.names.lookup y = some .free → ∃ c, (cloFrom X.env.cells scope.names []).lookup y = some c := fun {y} hl => by
    have hy : (y, NameKind.free) ∈ scope.names := PySem.mem_of_lookup hl
    exact mem_lookup (cloFrom_has (cells := X.env.cells) (acc := []) hy)
  have cellK : ∀ {c : Addr} {v : Option Value}, H c = none → s.heap.IsCell c v → h₁.IsCell c v := fun {c v} n ⟨o, ho, hd⟩ => by
    obtain ⟨sl, q⟩ := un.any ho n (by simp)
    exact ⟨_, kp _ _ q, hd⟩
  have noA : ∀ b : Addr, b ∉ (lamCx X A outer s1 HZ E scope f c').ex := fun b z => absurd (show b ∈ ([] : List Addr) from z) (by simp)
  refine ⟨⟨e0.mod, L.kind, rfl, rfl, Nat.le_refl _, fun y z c e1 e2 => I.ok.inj y z c (cm e1) (cm e2), fun y hy => ?_, fun y c z _ => ?_, fun _ => hd, Around.frames_deeper e0.frames, .inr ⟨rfl, rfl⟩, fun b z => absurd z (noA b), e0.bs, e0.bsz, fun b _ _ => noA b,
      fun b z => absurd z (noA b), e0.funs, e0.frf⟩,
    rfl, e0.bare, Un.kept kp, ⟨_, hns, fun i y v e1 e2 e3 => ?_⟩, fun y c e => ?_, e0.hok.fresh (Nat.le_refl _), fun y c e => ?_, fun q hq => absurd (show q ∈ ([] : List (Addr × Obj)) ++ [] from hq) (by simp), e0.hok.kept kp, I.len⟩
  · have hy : scope.names.lookup y = some .cell ∨ scope.names.lookup y = some .free := hy
    rcases hy with hy | hy
    · exact absurd rfl (L.nocell _ (PySem.mem_of_lookup hy))
    · exact look hy
  · have z : false = true := z
    cases z
  · have e3 : Vis scope y := e3
    rcases e3 with k | k | k
    · exact absurd k (L.loc y (List.mem_of_getElem? e1))
    · exact absurd rfl (L.nocell _ (PySem.mem_of_lookup k))
    · obtain ⟨m, hn, hl⟩ := I.loc
      have hvis : Vis X.env.scope y := (L.free _ (PySem.mem_of_lookup k) rfl).elim (fun k => .inr (.inl k)) (fun k => .inr (.inr k))
      obtain ⟨w', r, q⟩ := hl i y v e1 e2 hvis
      obtain ⟨c2, h2⟩ := look k
      refine ⟨w', r, .inr ⟨.inr k, c2, h2, ?_⟩⟩
      have c1 := cm h2
      rcases q with ⟨k', _⟩ | ⟨_, c3, e', z⟩
      · have k' : X.env.scope.names.lookup y = some .local := k'
        rcases L.free _ (PySem.mem_of_lookup k) rfl with k2 | k2 <;> rw [show X.env.scope.names.lookup y = _ from k2] at k' <;> cases k'
      · rw [c1] at e'
        cases e'
        exact cellK (I.freeC y _ c1) z
  · obtain ⟨w', z⟩ := I.cell y c (cm e)
    exact ⟨w', cellK (I.freeC y c (cm e)) z⟩
  · obtain ⟨v, o, ho, hd⟩ := I.cell y c (cm e)
    exact un.free c o ho (I.freeC y c (cm e)) (by simp)
/-- how its call binds -/
def BindL (params : Arguments) (body : Expr) (scope : Scope) (dk : List (Str × Int)) : Prop := ∀ (s : Shared) (H : Hp) (fs : List Addr) (q : Str) (cl : List (Str × Addr)) (dV doc pm cv ctv : Value) (its : List Value), its.length = dk.length → Dfl s.heap H fs dV its →
  BindsTo s (PySem.W.kdv_fn "<lambda>" q params (.expr body) scope cl dV doc pm cv ctv) ⟨[], []⟩ ((dk.map (·.1)).zip its)
/-- x(), in the def that got the lambda: that def's context, entered at s, here in a try -/
theorem pe_act3 {CXg : CXT} {Eg : XK} {Ng : List Str} {qg : Str} {sg : Scope} {g f c' : Addr} {cdg doc pm ctv dV : Value} {its : List Value} {dk : List (Str × Int)} {params : Arguments} {body : Expr} {scope : Scope} {k i : Nat} {a : Str} {pn : List (Addr × Obj)} {xe : Value → Shared → Prop} {W : WX} {tb : XK → TE} {p1 p2 : Pos}
    (I : Inv X pins σ H s) (L : LamS2 X.N X.env.scope scope) (hf : s.heap.get? f = some (PySem.W.kdv_obj "<lambda>" (X.env.qual ++ "<lambda>") params (.expr body) scope (cloFrom X.env.cells scope.names []) dV doc pm c' ctv)) (hfn : H f = none) (hfr : f ∉ frs X.stack) (hdf : Dfl s.heap H (frs X.stack) dV its) (hil : its.length = dk.length)
    (hbind : BindL params body scope dk) (hpl : ∀ y ∈ dk.map (·.1), scope.names.lookup y = some .local)
    (tk : Takes ((cxOf CXg X.prog X.w X.K X.mg X.base Ng qg sg g cdg X.A X.stack s H Eg).tr pn xe) W) (hr : Room (k + 1) (X.A.deeper (envOfC qg sg s.heap.objs.size g cdg)))
    (hbody : ∀ (A : Around) (outer : List Env) (s : Shared) (H : Hp) (E : XK), Room k (A.deeper (lamEnv X scope s.heap.objs.size f c')) → PE (lamCx X A outer s H E scope f c') body (tb E))
    (hN : Ng[i]? = some a) (hv : Vis sg a) (hd : (a == ("__debug__" : Str)) = false) (hcd : (a == ("__classdict__" : Str)) = false) :
    PE ((cxOf CXg X.prog X.w X.K X.mg X.base Ng qg sg g cdg X.A X.stack s H Eg).tr pn xe) (.Call (.Name a p1) [] [] p2)
      (fun σZ HZ Q => σZ[i]? = some (some (.ref f)) ∧ HZ c' = some (CodeO c' (X.env.qual ++ "<lambda>")) ∧ ∃ E : XK, (∀ cls d H', E cls d H' → W cls d σZ H') ∧ tb E σ HZ Q) := by
  refine ⟨fun pinsZ sZ σZ HZ Q IZ h => ?_⟩
  obtain ⟨hs, hc, E, hW, ht⟩ := h
  refine wpAny_Call_Name_kw (thn ((pe_var (pos := p1) (i := i) hN hv hd hcd).run pinsZ sZ σZ HZ (fun v H1 => v = .ref f ∧ H1 = HZ) IZ ⟨.ref f, hs, rfl, rfl⟩) fun u s1 ⟨v, H1, I1, r1, q1⟩ => ?_)
  obtain ⟨ev, eH⟩ := q1
  subst ev
  rw [eH] at I1
  obtain rfl : u = Value.ref f := r1
  have noex : ∀ b : Addr, b ∉ ((cxOf CXg X.prog X.w X.K X.mg X.base Ng qg sg g cdg X.A X.stack s H Eg).tr pn xe).ex := fun b z => nomatch (show b ∈ ([] : List Addr) from z)
  have of1 := I1.base.keep f _ hf hfn hfr (noex f)
  have hdf1 : Dfl s1.heap H (frs X.stack) dV its := by
    rcases hdf with q | ⟨T, e1, e0, e2, e3, e4⟩
    · exact .inl q
    · exact .inr ⟨T, e1, e0, I1.base.keep T _ e2 e3 e4 (noex T), e3, e4⟩
  refine PySem.W.callWith_F0 ⟨_, _, _, _, of1⟩ ?_
  have un : Un (frs X.stack) [] H HZ s.heap s1.heap := I1.base
  obtain ⟨⟨oc, vs, t, hoc, hdc, hvc⟩, _, _⟩ := I1.hok c' _ hc
  have rc : codeAny (model X.prog X.w) (X.A.deeper (envOfC qg sg s.heap.objs.size g cdg)) (.call (.ref f) ⟨[], []⟩) (CR (L2.CX X.prog X.w) (envOfC qg sg s.heap.objs.size g cdg :: X.stack) X.prog X.w HZ s1 Q E) s1 := by
    refine PySem.W.kla_callFunE hr.depth of1 rfl L.co L.gen rfl ⟨c', oc, vs, t, rfl, hoc, hdc, hvc⟩ ?_
    refine (hbind s1 H (frs X.stack) _ _ _ _ _ _ _ its hil hdf1) _ _ _ _ ?_
    refine wpAny_newFunctionEnv (fun y hy => L.nocell y hy) (fun y hy => hpl _ ?_) (fun h₁ hns hsb => ⟨I1.nolimit.fresh _ hsb, ?_⟩) L.kind
    · obtain ⟨n, v⟩ := y
      exact (List.of_mem_zip hy).1
    show codeAny _ _ (.expr body (lamEnv X scope s1.heap.objs.size f c')) _ _
    have kp : ∀ b o, s1.heap.get? b = some o → h₁.get? b = some o := fun b o e => hsb.extBut b o (Nat.ne_of_lt (Heap.lt_size e)) (Heap.get?_push_of_some _ e)
    have J : Inv (lamCx X (X.A.deeper (envOfC qg sg s.heap.objs.size g cdg)) (envOfC qg sg s.heap.objs.size g cdg :: X.stack) s1 HZ E scope f c') [] σ HZ { s1 with heap := h₁, toks := s1.toks + ((dk.map (·.1)).zip its).length } :=
      lam_start3 I L I1.env0 hr.hd un hns kp
    refine PySem.W.kla_codeExpr (wpAny_mono ((hbody _ _ s1 HZ E (hr.deeper _)).run [] _ _ HZ Q J ht) (fun v s' hq => ?_) fun e s' hq => hq)
    obtain ⟨w', H', J', rv, q⟩ := hq
    exact ⟨w', H', J'.os, J'.bare, J'.base, J'.hok, rv, q⟩
  refine wpAny_call (codeAny_mono rc fun r s' hq => ?_)
  cases r with
  | error e => exact tk _ _ (XE.of_call I1 (fun cls d H' h => hW cls d H' h) hq)
  | ok fl =>
    cases fl with
    | ret u => exact I1.after hq
    | next => exact False.elim hq
    | brk => exact False.elim hq
    | cont => exact False.elim hq
end
end Lm
end

section
set_option Elab.async false
set_option linter.all false
set_option maxRecDepth 100000
set_option autoImplicit false
set_option maxHeartbeats 2000000
/-! try: body / except X as n: suite, the caught exception tracked from then on. -/
namespace Lm
open PySem PySem.Spec PyProof.Rows L2 LamX
open Mi (ExK)
theorem exK_ok {P : Program} {w : World} {H : Hp} {h : Heap} {a : Addr} {cls : Value} {d : Option Addr} {oe : Obj} {vs : Array Value} (e : h.get? a = some oe) (z : Zc cls d oe) (hd : oe.data = .fields vs) : ObjOk P w H h a (ExK cls d a) :=
  ⟨⟨oe, vs, e, z, hd⟩, ⟨oe, e⟩, fun _ _ ⟨o, v, q, r⟩ k => ⟨o, v, k o q, r⟩⟩
section
variable {X : Cx} {pins : List (Addr × Obj)} {σ : L2.St} {H : Hp} {s sI : Shared}
theorem track {a : Addr} {cls : Value} {d : Option Addr} {oe : Obj} {vs : Array Value} (I : Inv X pins σ H s) (J : Inv X pins σ H sI) (hx : X.ex = []) (hn : sI.heap.get? a = none) (na : H a = none) (ha : s.heap.get? a = some oe) (hz : Zc cls d oe) (hd : oe.data = .fields vs) (nL : a ≠ X.env.locals) :
    Inv X pins σ (upd H a (ExK cls d a)) s := by
  have n0 : X.s_0.heap.get? a = none := by
    cases e : X.s_0.heap.get? a with
    | none => rfl
    | some o =>
      obtain ⟨o', q⟩ := J.base.there a o e (by rw [hx]; exact fun z => nomatch z)
      rw [hn] at q
      cases q
  refine ⟨I.ok, I.os, I.bare, ⟨I.base.keep, I.base.slot, fun b o e n hb => ?_, I.base.there, fun b xs e => ?_, fun b o u e => ?_, fun b ps e => ?_⟩, I.loc, I.cell, ?_, fun x c e => ?_, fun p hp => ?_, fun b u e => ?_, I.len⟩
  · rw [upd_ne (fun z => by rw [z, n0] at e; cases e)]
    exact I.base.free b o e n hb
  · have q := I.base.tups b xs e
    rw [upd_ne (ne_of_none q na)]
    exact q
  · have q := I.base.frzs b o u e
    rw [upd_ne (ne_of_none q na)]
    exact q
  · obtain ⟨m, q⟩ := I.base.tbls b ps e
    exact ⟨m, by rw [upd_ne (ne_of_none q na)]; exact q⟩
  · rw [upd_ne nL.symm]
    exact I.free
  · rw [upd_ne (fun z => ?_)]
    · exact I.freeC x c e
    · obtain ⟨v, o, h1, h2⟩ := I.cell x c e
      rw [z, ha] at h1
      cases h1
      rw [hd] at h2
      cases h2
  · obtain ⟨e, n, ne, nf, d⟩ := I.pin p hp
    obtain ⟨e', _⟩ := J.pin p hp
    exact ⟨e, by rw [upd_ne (fun z => by rw [z, hn] at e'; cases e')]; exact n, ne, nf, d⟩
  · by_cases hb : b = a
    · subst hb
      rw [upd_same] at e
      cases e
      exact exK_ok ha hz hd
    · rw [upd_ne hb] at e
      exact (I.hok b u e).stay (fun c v _ q => q) (fun c q => by rw [upd_ne (ne_of_none q na)]; exact q) fun c xs q => by rw [upd_ne (ne_of_none q na)]; exact q
theorem toSuite (I : Inv X pins σ H s) (a : Addr) : Inv (X.suite a (X.pn ++ pins)) [] σ H s :=
  ⟨I.ok.suite _ _, I.os, I.bare, I.base, I.loc, I.cell, I.free, I.freeC, fun p hp => I.pin p (by rw [List.append_nil] at hp; exact hp), I.hok, I.len⟩
theorem ofSuite {a : Addr} {pn' : List (Addr × Obj)} (I : Inv (X.suite a (X.pn ++ pins)) pn' σ H s) (ok : X.Ok) : Inv X pins σ H s :=
  ⟨ok, I.os, I.bare, I.base, I.loc, I.cell, I.free, I.freeC, fun p hp => I.pin p (List.mem_append_left _ hp), I.hok, I.len⟩
end
/-- what the clause wishes of an exception of the body: slot i is the name's; the exception is tracked -/
def wKeep (K : PySem.W.Frag) (c : Value) (i : Nat) (ts : Addr → TS) (Wout : WX) (D : Ends) : WX := fun cls d σ H =>
  ∃ b, PySem.W.exmOne K cls c = some b ∧ (b = true → ∀ a, H a = none → ts a { nx := fun σ' H' => D.nx (σ'.set i none) H', rt := D.rt, bk := fun σ' H' => D.bk (σ'.set i none) H', ct := fun σ' H' => D.ct (σ'.set i none) H' } (σ.set i (some (.ref a))) (upd H a (ExK cls d a))) ∧
    (b = false → Wout cls d σ H)
section
variable {X : Cx} {x n : Str} {c : Value} {i : Nat} {body suite : List Stmt} {b₀ : Stmt} {np pos pos' : Pos} {tb : WX → TS} {ts : Addr → TS} {Wout : WX}
theorem ps_try_keep (hs : X.stack = X.env :: X.outer) (hf : X.env.frame = some X.env.locals) (hex : X.ex = []) (hN : X.N.Nodup) (hi : X.N[i]? = some n) (hln : X.env.kindOf n = some .local) (hc : Names X x c) (tk : Takes X Wout)
    (hb : ∀ (W : WX) (pn : List (Addr × Obj)) (xe : Value → Shared → Prop), Takes (X.tr pn xe) W → PSs (X.tr pn xe) body (tb W))
    (hsu : ∀ (a : Addr) (pn : List (Addr × Obj)), PSs (X.suite a pn) (b₀ :: suite) (ts a)) :
    PS X (.Try body [.ExceptHandler (some (.Name x np)) (some n) (b₀ :: suite) pos'] [] [] pos) (fun D σ H => tb (wKeep X.K c i ts Wout D) D σ H) := by
  refine ⟨fun pins s σ H D I h => ?_⟩
  have ok := I.ok
  have hfr : X.A.frames = some (X.env :: X.outer) := by rw [ok.frames, hs]
  have hloc : Loc X.env.scope n := .inl hln
  refine wpAny_Try_except ?_
  refine wpAny_mono ((hb (wKeep X.K c i ts Wout D) (X.pn ++ pins) (fun e s₁ => wpAny (model X.prog X.w) X.A (noteFrame e X.env) (fun _ s₂ => wpAny (model X.prog X.w) X.A (setFlight e none) (fun _ s₃ =>
    wpAny (model X.prog X.w) X.A (handleBy e X.env [.ExceptHandler (some (.Name x np)) (some n) (b₀ :: suite) pos']) (SP X pins D) X.xe s₃) X.xe s₂) X.xe s₁) (fun u s' xx => ?_)).run [] s σ H D (I.toTry _) h) (fun f s1 hsp => ?_) (fun e s1 he => he)
  · obtain ⟨a, B, sI, pins', σ', H', cls, d, rfl, J', nb, up, sky, na, os, ag, b, hb1, hyes, hno⟩ := xx
    have J : Inv X pins σ' H' sI := J'.ofTry ok
    have sky' : Sky B (X.env :: X.outer) a (Zc cls d) X.env.locals s'.heap := by rw [← hs]; exact sky
    show wpAny (model X.prog X.w) X.A (noteFrame (.ref a) X.env) _ _ _
    refine Sky.land Zc.steady hfr hf sky' fun h3 fl3 up3 => ?_
    have J3 : Inv X pins σ' H' { s' with heap := h3 } := J.landed nb fl3.1 (up.trans up3) os ag
    obtain ⟨oe3, vs3, he3, hz3, hd3⟩ := fl3.there
    have notFr : ∀ {h : Heap} {o : Obj} {vs : Array Value}, h.FunFrames B (X.env :: X.outer) → h.get? a = some o → o.data = .fields vs → a ∉ frs (X.env :: X.outer) := fun {h o vs} ff e dd hm => by
      obtain ⟨_, o', e', hnf⟩ := ff.mem hm
      rw [e] at e'; cases e'
      exact hnf _ dd
    have nfr := notFr fl3.2.2.1 he3 hd3
    have nL : a ≠ X.env.locals := fun z => nfr (List.mem_filterMap.mpr ⟨X.env, List.mem_cons_self, by rw [hf, z]⟩)
    have nI : sI.heap.get? a = none := by
      cases e : sI.heap.get? a with
      | none => rfl
      | some o =>
        have q := nb a o e (by rw [hs]; exact nfr)
        rw [fl3.2.1] at q
        cases q
    have S3 := toSuite J3 a
    refine wpAny_handleBy_cons (codeAny_handlers_test ?_) (by intro q; cases q)
    have LT : PySem.W.Looks (model X.prog X.w) h3 (typeOf (.ref a)) cls := fun A Q E s k q => wpAny_typeOf_ref (k _ _ he3) (by rw [hz3.1]; exact q)
    have LM := PySem.W.exm_one (M := model X.prog X.w) (J3.kIn) LT hb1
    have test : ∀ {Q : Value → Shared → Prop} {E : Value → Shared → Prop}, Q c { s' with heap := h3 } → wpAny (model X.prog X.w) (X.A.mark (some (.ref a))) (eval (.Name x np) X.env) Q E { s' with heap := h3 } := fun {Q E} q => by
      obtain ⟨hg, hdbg, hm | ⟨hm, hv, hnn⟩⟩ := hc
      · exact ld_glob (X := X.suite a (X.pn ++ pins)) S3 hg hm q hdbg
      · exact ld_blt (X := X.suite a (X.pn ++ pins)) S3 hg hm hv q hnn hdbg
    refine test (LM.here ?_)
    cases b with
    | true =>
      refine codeAny_handlers_suite_as ?_
      refine HandSPX.lands_againZ fl3 fun h4 fl4 up4 => ?_
      have J4 : Inv X pins σ' H' { s' with heap := h4 } := J.landed nb fl4.1 ((up.trans up3).trans up4) os ag
      obtain ⟨oe4, vs4, he4, hz4, hd4⟩ := fl4.there
      have S4 := toSuite (track J4 J hex nI na he4 hz4 hd4 nL) a
      refine store_ok (X := X.suite a (X.pn ++ pins)) (v := .ref a) S4 hN hi hloc rfl (fun s5 S5 => ?_) (.inr hln)
      refine wpAny_mono ((hsu a (X.pn ++ pins)).run [] s5 _ _ _ S5 (hyes rfl a na)) (fun f s6 hsp => ?_) (fun _ _ z => False.elim z)
      have end_ : ∀ {σ6 : L2.St} {H6 : Hp} {Q : Shared → Prop}, Inv (X.suite a (X.pn ++ pins)) [] σ6 H6 s6 → (∀ s7, Inv X pins (σ6.set i none) H6 s7 → Q s7) →
          wpAny (model X.prog X.w) X.A (do bindName X.env n .none; unbindBehindTheSuite X.env n pos') (fun _ s7 => Q s7) X.xe s6 := fun {σ6 H6 Q} S6 hq => gone_ok (ofSuite S6 ok) hN hi hln hq
      cases f with
      | next =>
        obtain ⟨σ6, H6, S6, q6⟩ := hsp
        exact end_ S6 fun s7 J7 => ⟨_, _, J7, q6⟩
      | brk =>
        obtain ⟨σ6, H6, S6, q6⟩ := hsp
        exact end_ S6 fun s7 J7 => ⟨_, _, J7, q6⟩
      | cont =>
        obtain ⟨σ6, H6, S6, q6⟩ := hsp
        exact end_ S6 fun s7 J7 => ⟨_, _, J7, q6⟩
      | ret u =>
        obtain ⟨v6, σ6, H6, S6, r6, q6⟩ := hsp
        exact end_ S6 fun s7 J7 => ⟨_, _, _, J7, r6, q6⟩
    | false =>
      show wpAny _ X.A (handleBy (.ref a) X.env []) _ _ _
      refine wpAny_handleBy_nil ?_
      obtain ⟨k1, k2, k3, oe, vs, T, oT, ts', he, hz, hd, h1, hr⟩ := id fl3
      unfold PySem.passOn
      refine wpAny_bind (wpAny_field he hd h1 ?_)
      rw [if_neg (show ¬ ((Value.ref T == Value.none) = true) from by simp)]
      have fin : wpAny (model X.prog X.w) X.A (setFlight (.ref a) X.env.frame) (fun _ s4 => wpAny (model X.prog X.w) X.A (throw (.ref a) : Sem Flow) (SP X pins D) X.xe s4) X.xe { s' with heap := h3 } := by
        rw [hf]
        refine HandSPX.setFlight_upZ fl3 fun h4 hh4 up4 => wpAny_throw (tk _ _ ?_)
        exact ⟨a, B, sI, pins, σ', H', cls, d, rfl, J, nb, (up.trans up3).trans up4, .inr (.inr (by rw [hs]; exact hh4)), na, os, ag, hno rfl⟩
      first
        | exact wpAny_bind (wpAny_pure (wpAny_bind fin))
        | exact wpAny_bind fin
  · cases f with
    | next =>
      obtain ⟨σ', H', J', q⟩ := hsp
      exact wpAny_execs_nil ⟨σ', H', J'.ofTry ok, q⟩
    | brk =>
      obtain ⟨σ', H', J', q⟩ := hsp
      exact ⟨σ', H', J'.ofTry ok, q⟩
    | cont =>
      obtain ⟨σ', H', J', q⟩ := hsp
      exact ⟨σ', H', J'.ofTry ok, q⟩
    | ret u =>
      obtain ⟨v, σ', H', J', r, q⟩ := hsp
      exact ⟨v, σ', H', J'.ofTry ok, r, q⟩
end
end Lm
end

section
set_option Elab.async false
set_option linter.all false
set_option maxRecDepth 100000
set_option autoImplicit false
set_option maxHeartbeats 2000000
/-! x(lambda: body), x the def that calls what it got in a try and keeps the exception. -/
namespace Mi
open PySem PySem.Spec PyProof.Rows L2 LamX Lm
def endR (r : RS) : R D := match r with
  | .rt d m => .ok d m
  | .nx _ m => .ok .non m
  | .bk _ _ => .bad
  | .ct _ _ => .bad
  | .err _ _ => .bad
  | .bad => .bad
/-- behind the try: slots ask, found, caught, error -/
def heardR (ce : Nat → Bool) (cr : Sm) (r : R D) : R D := match r with
  | .ok d m1 => endR (cr [none, some d, some .non, none] m1)
  | .err x m1 => (match ce x.cls with
    | true => endR (cr [none, some .non, some (.ref m1.next), none] (m1.new (.exc x.cls x.fs)))
    | false => .bad)
  | .bad => .bad
def eHeard (ce : Nat → Bool) (cr : Sm) (c : E) : E := fun e m => heardR ce cr (c e m)
theorem end_post {S : Sg} {W : XK} {r : RS} {ρ : Rho} {H : Hp} {Q : VK} (h : PostV S W (endR r) ρ H Q) : PostS S Eno r ρ H { nx := fun _ H' => Q .non H', rt := Q } := by
  cases r with
  | rt d m => exact fun ρ2 H2 v x a b => h ρ2 H2 v x a b
  | nx e m => exact fun ρ2 H2 σ2 x a b => h ρ2 H2 .non x a RD.non
  | bk e m => exact h.elim
  | ct e m => exact h.elim
  | err x m => exact h.elim
  | bad => exact h.elim
theorem RM.extN {S : Sg} {ρ : Rho} {H H1 : Hp} {m : Mem} (rm : RM S ρ H m) (e : ExtN H H1) (t : Tabs S.T H1) : Ext ρ H ρ H1 ∧ RM S ρ H1 m := by
  have x : Ext ρ H ρ H1 := ⟨fun _ _ h => h, fun a o h i => e a o h fun ps z => by
    subst z
    rcases i with ⟨_, i⟩ | ⟨_, _, i⟩ | ⟨_, _, i⟩ | ⟨_, i⟩ | ⟨_, _, _, i⟩
    · cases i
    · cases i
    · exact codeO_tbl i.symm
    · cases i
    · exact exK_tbl i.symm⟩
  refine ⟨x, rm.lt, rm.inj, fun n o h => ?_, rm.full, t⟩
  obtain ⟨a, h1, h2⟩ := rm.ob n o h
  obtain ⟨u, h3, h4⟩ := rm.at_ h1
  exact ⟨a, h1, h2.ext x (by rw [e a u h3 h4, h3])⟩
theorem SR.list4 {S : Sg} {ρ : Rho} {H : Hp} {v0 v1 v2 v3 : Option V} {d0 d1 d2 d3 : Option D} (h0 : ∀ d, d0 = some d → ∃ v, v0 = some v ∧ RD S.K ρ H d v) (h1 : ∀ d, d1 = some d → ∃ v, v1 = some v ∧ RD S.K ρ H d v) (h2 : ∀ d, d2 = some d → ∃ v, v2 = some v ∧ RD S.K ρ H d v) (h3 : ∀ d, d3 = some d → ∃ v, v3 = some v ∧ RD S.K ρ H d v) : SR S ρ H [v0, v1, v2, v3] [d0, d1, d2, d3] := by
  refine ⟨rfl, fun i d q => ?_⟩
  match i, q with
  | 0, q =>
    obtain ⟨v, e, r⟩ := h0 d (Option.some.inj q)
    exact ⟨v, by rw [e]; rfl, r⟩
  | 1, q =>
    obtain ⟨v, e, r⟩ := h1 d (Option.some.inj q)
    exact ⟨v, by rw [e]; rfl, r⟩
  | 2, q =>
    obtain ⟨v, e, r⟩ := h2 d (Option.some.inj q)
    exact ⟨v, by rw [e]; rfl, r⟩
  | 3, q =>
    obtain ⟨v, e, r⟩ := h3 d (Option.some.inj q)
    exact ⟨v, by rw [e]; rfl, r⟩
  | n + 4, q =>
    have z : ([d0, d1, d2, d3] : Lo)[n + 4]? = none := by simp
    rw [z] at q
    cases q
theorem slot_no {S : Sg} {ρ : Rho} {H : Hp} {v : Option V} : ∀ d, (none : Option D) = some d → ∃ u, v = some u ∧ RD S.K ρ H d u := fun d h => by cases h
theorem slot_is {S : Sg} {ρ : Rho} {H : Hp} {v : V} {x : D} (r : RD S.K ρ H x v) : ∀ d, some x = some d → ∃ u, some v = some u ∧ RD S.K ρ H d u := fun d h => by
  cases h
  exact ⟨v, rfl, r⟩
theorem exm_true {K : PySem.W.Frag} {a b : Value} {c : Bool} (h : PySem.W.exmOne K a b = some c) (e : c = true) : PySem.W.exmOne K a b = some true := by rw [h, e]

/-- the text of the def -/
abbrev hdS0 (q0 q1 q2 q3 q4 q5 q6 : Pos) (k0 k1 j0 j1 : Nat) : Stmt := .Assign [.Tuple [.Name "found" q0, .Name "caught" q1] k0 q2] (.Tuple [.Constant .none j0 q3, .Constant .none j1 q4] k1 q5) q6
abbrev hdS1 (r0 r1 r2 r3 r4 r5 r6 r7 r8 r9 : Pos) : Stmt := .Try [.Assign [.Name "found" r0] (.Call (.Name "ask" r1) [] [] r2) r3] [.ExceptHandler (some (.Name "CodeError" r4)) (some "error") [.Assign [.Name "caught" r5] (.Name "error" r6) r7] r8] [] [] r9
abbrev hdN : List Str := ["ask", "found", "caught", "error"]
section
variable {X : Cx} {S : Sg} {W : XK} {k : Nat}
theorem me_heard [c : Ok S W X k] {x : Str} {g CE c0 P : Addr} {j : Nat} {pg : Arguments} {bg rest : List Stmt} {sg : Scope} {kws : List (Str × V)} {fd : FuncData} {params : Arguments} {body : Expr} {scope : Scope} {p lpos pos : Pos} {dk : List (Str × Int)} {ce : Nat → Bool} {cr : Sm} {cb : E}
    {q0 q1 q2 q3 q4 q5 q6 r0 r1 r2 r3 r4 r5 r6 r7 r8 r9 : Pos} {k0 k1 j0 j1 : Nat}
    (hg : Gl X x) (hm : X.mg x = some (.ref g)) (F : FunD S.K x x pg bg sg [] kws g fd) (hb : Binds S.K fd ["ask"] []) (Sg_ : FnScope hdN ["ask"] sg) (hbg : bg = hdS0 q0 q1 q2 q3 q4 q5 q6 k0 k1 j0 j1 :: hdS1 r0 r1 r2 r3 r4 r5 r6 r7 r8 r9 :: rest)
    (l0 : sg.names.lookup ("ask" : Str) = some .local) (l1 : sg.names.lookup ("found" : Str) = some .local) (l2 : sg.names.lookup ("caught" : Str) = some .local) (l3 : sg.names.lookup ("error" : Str) = some .local) (l4 : sg.names.lookup ("CodeError" : Str) = some .globalImplicit)
    (hCE : X.mg "CodeError" = some (.ref CE)) (hce : ∀ i, ce i = true → PySem.W.exmOne S.K (.ref (S.ca i)) (.ref CE) = some true)
    (TB : TabB X.base X.mg c0 P) (hcode : X.env.code = .ref c0) (hmT : (P, X.env.qual ++ "<lambda>") ∈ S.T) (hu : ∀ p ∈ S.T, p.1 = P → p.2 = X.env.qual ++ "<lambda>")
    (L : LamS2 X.N X.env.scope scope) (hdef : Dk params dk) (hbind : BindL params body scope dk) (hpl : ∀ y ∈ dk.map (·.1), scope.names.lookup y = some .local)
    (hrest : ∀ (cdv : Value) (A : Around) (outer : List Env) (s : Shared) (H : Hp) [Ok S Eno (cxOf C8.CX0 X.prog X.w S.K X.mg X.base hdN x sg g cdv A outer s H C8.E0).nox (j + 1)], PSs (cxOf C8.CX0 X.prog X.w S.K X.mg X.base hdN x sg g cdv A outer s H C8.E0).nox rest (IS S Eno cr))
    (hbody : ∀ (A : Around) (outer : List Env) (s : Shared) (H : Hp) (E : XK) (f c' : Addr) [Ok S E (lamCx X A outer s H E scope f c') j] [OkR E (lamCx X A outer s H E scope f c')], PE (lamCx X A outer s H E scope f c') body (I S E cb))
    (hj : j + 2 ≤ k) (hdb : (x == ("__debug__" : Str)) = false := by decide)
    (hw : ∀ (cdv : Value) (A : Around) (outer : List Env) (s : Shared) (H : Hp), swappedStores [.Tuple [.Name "found" q0, .Name "caught" q1] k0 q2] (.Tuple [.Constant .none j0 q3, .Constant .none j1 q4] k1 q5) (cxOf C8.CX0 X.prog X.w S.K X.mg X.base hdN x sg g cdv A outer s H C8.E0).nox.env = pure none := by intros; rfl)
    (hsw : ∀ (cdv : Value) (A : Around) (outer : List Env) (s : Shared) (H : Hp), swapsWithSole [.Tuple [.Name "found" q0, .Name "caught" q1] k0 q2] (.Tuple [.Constant .none j0 q3, .Constant .none j1 q4] k1 q5) q6.line (cxOf C8.CX0 X.prog X.w S.K X.mg X.base hdN x sg g cdv A outer s H C8.E0).nox.env = pure false := by intros; rfl)
    (has : ∀ (cdv : Value) (A : Around) (outer : List Env) (s : Shared) (H : Hp), (assignEach [.Tuple [.Name "found" q0, .Name "caught" q1] k0 q2] (cxOf C8.CX0 X.prog X.w S.K X.mg X.base hdN x sg g cdv A outer s H C8.E0).nox.env).map (·.2) = [assign (.Tuple [.Name "found" q0, .Name "caught" q1] k0 q2) (cxOf C8.CX0 X.prog X.w S.K X.mg X.base hdN x sg g cdv A outer s H C8.E0).nox.env] := by intros; rfl)
    (hs1 : ∀ (cdv : Value) (A : Around) (outer : List Env) (s : Shared) (H : Hp), swapsWith (.Call (.Name "ask" r1) [] [] r2) (some (.Name "found" r0)) r3.line (cxOf C8.CX0 X.prog X.w S.K X.mg X.base hdN x sg g cdv A outer s H C8.E0).nox.env = pure false := by intros; rfl)
    (hs2 : ∀ (cdv : Value) (A : Around) (outer : List Env) (s : Shared) (H : Hp), swapsWith (.Name "error" r6) (some (.Name "caught" r5)) r7.line (cxOf C8.CX0 X.prog X.w S.K X.mg X.base hdN x sg g cdv A outer s H C8.E0).nox.env = pure false := by intros; rfl) :
    PE X (.Call (.Name x p) [.Lambda params body scope lpos] [] pos) (I S W (eHeard ce cr cb)) := by
  have eK := c.K
  subst hbg
  obtain ⟨oc, od, dV0, kV, doc0, pm0, an, cdg, ct, osl, efd, lk, hcg, hD, hKw⟩ := F.ex
  have eD : dV0 = .none := by
    rcases hD with ⟨_, e⟩ | ⟨e, _⟩
    · exact e
    · exact absurd rfl e
  subst eD
  subst efd
  refine ⟨fun pins s σ H Q I h => ?_⟩
  obtain ⟨ρ, e, m, sr, rm, h⟩ := h
  refine wpAny_Call_Name_kw (ld_glob I hg hm ?_ hdb)
  refine PySem.W.callWith_K (h₀ := X.base) I.ok.mod.kin (by rw [eK]; exact F.kp) ?_ (by rfl) (by rfl)
  show wpAny _ _ (spliced ((false, eval (.Lambda params body scope lpos) X.env) :: backTo pos (starEach [] X.env))) _ _ s
  refine Calls.spliced_cons (lam_make I TB hcode hmT hu rm.tabs hdef (L.has I.ok) fun dV its f c' doc pm ctv H1 s' sm hil M hdf => ?_)
  refine Calls.spliced_nil ⟨M.inv.kIn, ?_⟩
  obtain ⟨x1, rm1⟩ := rm.extN M.ext M.tabs
  have sr1 := sr.ext x1
  have h1 : PostV S W (heardR ce cr (cb e m)) ρ H1 Q := Post.ext h x1
  have rc : codeAny (model X.prog X.w) X.A (.call (.ref g) ⟨[.ref f], []⟩) (CR C8.CX0 X.stack X.prog X.w H1 s' Q C8.E0) s' := by
    refine run_ofS (k := j + 1) (N := hdN) (ps := ["ask"]) (us := [.ref f]) (vs := [.ref f]) (by rw [eK]; exact lk) (by rw [eK]; exact hcg) Sg_ (c.room.mono hj) M.inv.env0 (hb s' [.ref f] (by rw [← eK]; exact M.inv.kIn) rfl) (.cons rfl .nil) rfl fun hr' => ?_
    rw [eK]
    have okR : Ok S Eno (cxOf C8.CX0 X.prog X.w S.K X.mg X.base hdN x sg g cdg X.A X.stack s' H1 C8.E0).nox (j + 1) := ⟨rfl, passNo, PassesOwn.never, rfl, hr', c.inj⟩
    have hbod : ∀ (Wb : WX) (pn : List (Addr × Obj)) (xe : Value → Shared → Prop), Takes ((cxOf C8.CX0 X.prog X.w S.K X.mg X.base hdN x sg g cdg X.A X.stack s' H1 C8.E0).nox.tr pn xe) Wb →
        PSs ((cxOf C8.CX0 X.prog X.w S.K X.mg X.base hdN x sg g cdg X.A X.stack s' H1 C8.E0).nox.tr pn xe) [.Assign [.Name "found" r0] (.Call (.Name "ask" r1) [] [] r2) r3]
          (fun Z σZ HZ => σZ[0]? = some (some (V.ref f)) ∧ HZ c' = some (CodeO c' (X.env.qual ++ "<lambda>")) ∧ ∃ E : XK, (∀ cls d H', E cls d H' → Wb cls d σZ H') ∧ Mi.I S E cb σ HZ fun v H2 => Z.nx (σZ.set 1 (some v)) H2) := by
      intro Wb pn xe tk
      have tk' : Takes ((cxOf C8.CX0 X.prog X.w X.K X.mg X.base hdN x sg g cdg X.A X.stack s' H1 C8.E0).tr pn xe) Wb := by
        rw [eK]
        exact tk
      have act := pe_act3 (Eg := C8.E0) (CXg := C8.CX0) (Ng := hdN) (qg := x) (sg := sg) (g := g) (cdg := cdg) (i := 0) (pn := pn) (xe := xe) (W := Wb) (tb := fun E => Mi.I S E cb) (p1 := r1) (p2 := r2) (k := j) (a := "ask") M.inv L M.obj M.fn M.fr hdf hil hbind hpl tk' hr' (fun A outer s2 H2 E hr2 => by
          have tkL : Takes (lamCx X A outer s2 H2 E scope f c') (fun cls d _ H => E cls d H) := takes_of rfl rfl rfl rfl
          have i1 : Ok S E (lamCx X A outer s2 H2 E scope f c') j := ⟨eK, passes_call tkL fun _ _ _ _ h => h, passes_of rfl, rfl, hr2, c.inj⟩
          have i2 : OkR E (lamCx X A outer s2 H2 E scope f c') := ⟨tkL⟩
          exact hbody A outer s2 H2 E f c') rfl (.inl l0) (by decide) (by decide)
      rw [eK] at act
      exact pss_one (PS.mono (ps_set (i := 1) Sg_.nd rfl (.inl l1) act (hs1 cdg X.A X.stack s' H1) (.inr l1)) fun Z σZ HZ hz => hz)
    have hsui : ∀ (a : Addr) (pn : List (Addr × Obj)), PSs ((cxOf C8.CX0 X.prog X.w S.K X.mg X.base hdN x sg g cdg X.A X.stack s' H1 C8.E0).nox.suite a pn) [.Assign [.Name "caught" r5] (.Name "error" r6) r7]
        (fun Z σZ HZ => ∃ v, σZ[3]? = some (some v) ∧ Z.nx (σZ.set 2 (some v)) HZ) := fun a pn =>
      pss_one (PS.mono (ps_set (i := 2) Sg_.nd rfl (.inl l2) (pe_var (i := 3) rfl (.inl l3) (by decide) (by decide)) (hs2 cdg X.A X.stack s' H1) (.inr l2)) fun Z σZ HZ hz => hz)
    have htry := ps_try_keep (X := (cxOf C8.CX0 X.prog X.w S.K X.mg X.base hdN x sg g cdg X.A X.stack s' H1 C8.E0).nox) (i := 3) (x := "CodeError") (n := "error") (c := .ref CE) (np := r4) (pos' := r8) (pos := r9) (Wout := fun _ _ _ _ => False) rfl rfl rfl Sg_.nd rfl l3 ⟨l4, by decide, .inl hCE⟩ LamX.takes0 hbod (fun a pn => hsui a pn)
    have hst0 := ps_asg (X := (cxOf C8.CX0 X.prog X.w S.K X.mg X.base hdN x sg g cdg X.A X.stack s' H1 C8.E0).nox) (pe_tup (pos := q5) (pa_cons (pe_non (pos := q3) (j := j0)) (pa_cons (pe_non (pos := q4) (j := j1)) pa_nil)))
      (pg_tup rfl (pgs_cons (pg_name (i := 1) (pos := q0) Sg_.nd rfl (.inl l1) (.inr l1)) (pgs_cons (pg_name (i := 2) (pos := q1) Sg_.nd rfl (.inl l2) (.inr l2)) pgs_nil rfl) rfl) rfl rfl) (hsw cdg X.A X.stack s' H1) (hw cdg X.A X.stack s' H1) (has cdg X.A X.stack s' H1)
    have hall := pss_cons hst0 (pss_cons htry (hrest cdg X.A X.stack s' H1))
    refine ⟨_, PSs.nox hall, ?_⟩
    · -- the reading
      refine ⟨by show 2 ≤ sizeLine; decide, fun p0 hp0 => ⟨p0, _, rfl, SqT.of upd_same, rfl, _, _, rfl, _, _, rfl, rfl, rfl, by rw [upd_ne (ne_of_none M.co hp0)]; exact M.co, _, fun cls d H' hh => hh, ρ, e, m, sr1.ext (ext_upd (none_fix hp0)), rm1.free hp0, ?_⟩⟩
      have h2 : PostV S W (heardR ce cr (cb e m)) ρ (upd H1 p0 (.tup [.non, .non])) Q := Post.ext h1 (ext_upd (none_fix hp0))
      clear h1
      revert h2
      unfold heardR
      cases cb e m with
      | ok d m1 =>
        intro h1 ρ2 H2 v y rm2 rd
        refine ⟨ρ2, [none, some d, some .non, none], m1, SR.list4 slot_no (slot_is rd) (slot_is RD.non) slot_no, rm2, ?_⟩
        exact end_post (Post.ext h1 y)
      | err z m1 =>
        intro h1 ρ2 H2 cls d y rm2 rx
        obtain ⟨ecls, dx, vs, ed, hdx, rds, hnf⟩ := rx
        have h1' : PostV S W (match ce z.cls with
          | true => endR (cr [none, some .non, some (.ref m1.next), none] (m1.new (.exc z.cls z.fs)))
          | false => .bad) ρ (upd H1 p0 (.tup [.non, .non])) Q := h1
        cases q : ce z.cls with
        | false =>
          rw [q] at h1'
          exact h1'.elim
        | true =>
          rw [q] at h1'
          refine ⟨true, by rw [ecls]; exact hce _ q, fun _ a na => ?_, fun z => nomatch z⟩
          refine ⟨_, rfl, ?_⟩
          have x2 : Ext ρ2 H2 (rnew ρ2 m1 a) (upd H2 a (ExK cls d a)) := rm2.extNew na
          refine ⟨rnew ρ2 m1 a, [none, some .non, some (.ref m1.next), none], m1.new (.exc z.cls z.fs), SR.list4 slot_no (slot_is RD.non) (slot_is (RD.ref (rnew_self _ _ _))) slot_no, rm2.new na ⟨dx, vs, ?_, ?_, rds.ext x2, hnf⟩, ?_⟩
          · rw [upd_same, ecls, ed]
          · exact x2.keep _ _ hdx (.inr (.inr (.inr (.inl ⟨_, rfl⟩))))
          · exact end_post (Post.ext h1' (y.trans x2))
      | bad => exact fun h1 => h1.elim
  refine wpAny_call (codeAny_mono rc fun r s2 hq => ?_)
  cases r with
  | error e => exact (show False from hq).elim
  | ok fl =>
    cases fl with
    | ret u => exact M.inv.after hq
    | next => exact False.elim hq
    | brk => exact False.elim hq
    | cont => exact False.elim hq
end
end Mi
end

section
set_option Elab.async false
set_option linter.all false
set_option maxRecDepth 100000
set_option autoImplicit false
set_option maxHeartbeats 1000000
namespace Mi
open PySem PySem.Spec PyProof.Rows L2

/-! ## isinstance -/
inductive Kd where
  | non | bl | int | str | tup | lst | dic | own (c : Nat)
def kv (S : Sg) : Kd → Value
  | .non => .type "NoneType"
  | .bl => .type "bool"
  | .int => .type "int"
  | .str => .type "str"
  | .tup => .type "tuple"
  | .lst => .type "list"
  | .dic => .type "dict"
  | .own c => .ref (S.ca c)
def kindOf (ic xc : Nat → Bool) : D → Mem → Option Kd
  | .non, _ => some .non
  | .bl _, _ => some .bl
  | .int _, _ => some .int
  | .str _, _ => some .str
  | .tup _, _ => some .tup
  | .ref n, m => match m.get n with
    | some (.lst _) => some .lst
    | some (.frz _) => some .lst
    | some (.dic _) => some .dic
    | some (.ins c _) => (match ic c with
      | true => some (.own c)
      | false => none)
    | some (.exc c _) => (match xc c with
      | true => some (.own c)
      | false => none)
    | none => none
/-- what the written part says of a class, so that isinstance asks its instances rightly -/
structure ClsI (K : PySem.W.Frag) (C : Addr) : Prop where
  cl : Cls K C
  ha : PySem.W.findIn K (.ref C) "__class__" = some (some (.builtin "object.__class__"))
  hn : PySem.W.specialIn K (.builtin "object.__class__") "__get__" = some (some (.builtin "getset_descriptor.__get__"))
  htk : PySem.W.takesIn K (.builtin "object.__class__") = some true
  hm : PySem.W.mroIn K C (.type "object") = some true
structure ClsE (K : PySem.W.Frag) (C : Addr) : Prop where
  xf : XfC K C
  ha : PySem.W.findIn K (.ref C) "__class__" = some (some (.builtin "object.__class__"))
  hn : PySem.W.specialIn K (.builtin "object.__class__") "__get__" = some (some (.builtin "getset_descriptor.__get__"))
  htk : PySem.W.takesIn K (.builtin "object.__class__") = some true
  hm : PySem.W.mroIn K C (.type "object") = some true
def eIs (ic xc : Nat → Bool) (tb : Kd → Option Bool) (a : E) : E := fun e m => (a e m).bind fun x m1 => match kindOf ic xc x m1 with
  | some t => (match tb t with
    | some b => .ok (.bl b) m1
    | none => .bad)
  | none => .bad
/-- the values that isinstance is asked of -/
inductive TyM (K : PySem.W.Frag) (H : Hp) : V → Value → Prop where
  | base {x : V} {t : Value} (h : TyX K H x t) : TyM K H x t
  | exc {a C dx : Addr} {fs : List (Str × V)} (e : H a = some (ExK (.ref C) (some dx) a)) (e2 : H dx = some (.xd fs)) (c : ClsE K C) : TyM K H (.ref a) (.ref C)
theorem exc_inst {X : Cx} {pins : List (Addr × Obj)} {σ : L2.St} {H : Hp} {s : Shared} (I : Inv X pins σ H s) {a C dx : Addr} {fs : List (Str × V)} (e : H a = some (ExK (.ref C) (some dx) a)) (e2 : H dx = some (.xd fs)) :
    ∃ (oe od : Obj), PySem.W.InstAt s.heap a oe C (some od) ∧ ∃ mA : Str → Option Value, (∀ n, PySem.W.lookIn n od = some (mA n)) ∧ ∀ n, RelO (fs.lookup n) (mA n) := by
  obtain ⟨⟨oe, vs, ho, hz, hd⟩, _, _⟩ := I.hok a _ e
  obtain ⟨mA, hns, hr⟩ := (show ObjOk X.prog X.w H s.heap dx (.xd fs) from I.hok dx _ e2)
  obtain ⟨od, ho2, hl⟩ := lookIn_ns hns
  exact ⟨oe, od, ⟨ho, hz.1, by unfold PySem.W.notCls; rw [hd] <;> rfl, by rw [hz.2]; exact ho2⟩, mA, hl, hr⟩
theorem kit_ofM {X : Cx} {pins : List (Addr × Obj)} {σ : L2.St} {H : Hp} {s : Shared} {x : V} {u t : Value} (I : Inv X pins σ H s) (rx : RelV x u) (ty : TyM X.K H x t) : ∃ P : Heap → Prop, PySem.W.KitX X.K u t P ∧ P s.heap ∧ u ≠ .builtin "__main__.__loader__#opaque" := by
  cases ty with
  | base h => exact kit_of I rx h
  | @exc a C dx fs e e2 c =>
    obtain ⟨oe, od, J, _⟩ := exc_inst I e e2
    cases (show u = Value.ref a from rx)
    have hcl : (PySem.W.clsIn X.K C).isSome = true := by
      obtain ⟨cd, hc, _⟩ := PySem.W.any_some c.xf.hdC
      rw [hc] <;> rfl
    exact ⟨_, PySem.W.kitx_exc (ox := oe) (od := some od) hcl c.xf.ga c.xf.gg c.xf.exC c.ha c.hn c.htk c.hm, J, fun z => nomatch z⟩
def rIsM (K : PySem.W.Frag) : List V → Hp → VK → Prop := fun xs H Q => ∃ (x c : V) (t u : Value) (b : Bool), xs = [x, c] ∧ ClsV c u ∧ TyM K H x t ∧ PySem.W.kitOne K t u = some b ∧ Q (.bl b) H
def rIsMT (K : PySem.W.Frag) : List V → Hp → VK → Prop := fun xs H Q => ∃ (x : V) (tp : Addr) (cs : List V) (t : Value) (us : List Value) (b : Bool), xs = [x, .ref tp] ∧ H tp = some (.tup cs) ∧ Paired ClsV cs us ∧ TyM K H x t ∧ PySem.W.kitAny K t us = some b ∧ Q (.bl b) H
theorem call_isM {X : Cx} : CallR X (.builtin "isinstance") (rIsM X.K) := by
  intro pins s σ H xs us Q I r h
  obtain ⟨x, c, t, u, b, rfl, k, ty, e, q⟩ := h
  obtain ⟨u1, u2, rfl, r1, r2⟩ := vals2 r
  have e2 := k.eq r2
  subst e2
  obtain ⟨P, Z, p, hx⟩ := kit_ofM I r1 ty
  exact PySem.W.kia_one Z I.kIn p e hx fun tk => ⟨.bl b, H, I.tok tk, rfl, q⟩
theorem call_isMT {X : Cx} : CallR X (.builtin "isinstance") (rIsMT X.K) := by
  intro pins s σ H xs us Q I r h
  obtain ⟨x, tp, cs, t, ws, b, rfl, hT, k, ty, e, q⟩ := h
  obtain ⟨u1, u2, rfl, r1, r2⟩ := vals2 r
  cases (show u2 = Value.ref tp from r2)
  obtain ⟨P, Z, p, hx⟩ := kit_ofM I r1 ty
  obtain ⟨_, its, rv, o, h1, h2, n, h3⟩ := (show ObjOk X.prog X.w H s.heap tp (.tup cs) from I.hok tp _ hT)
  have e3 := ClsV.all k rv
  subst e3
  obtain ⟨oc, od, dt, sl⟩ := o
  simp only at h2 h3
  subst h2 h3
  exact PySem.W.kia_tup Z I.kIn p h1 e hx fun tk => ⟨.bl b, H, I.tok tk, rfl, q⟩
/-- constants as arguments -/
def tKs (vs : List V) : TA := fun _ H Q => Q vs H
theorem pk_nil {X : Cx} : PA X [] (tKs []) := pa_nil
theorem pk_cons {X : Cx} {e : Expr} {es : List Expr} {v : V} {vs : List V} (h : PE X e (tC v)) (t : PA X es (tKs vs)) (hs : starEach (e :: es) X.env = (false, eval e X.env) :: starEach es X.env := by rfl) : PA X (e :: es) (tKs (v :: vs)) :=
  (pa_cons h t hs).mono fun σ H Q q => q
theorem pk_ty {X : Cx} {x : Str} {T : String} {pos : Pos} (hg : Gl X x) (hm : X.mg x = none) (hv : bootBuiltins x = some (.type T)) (hn : x ≠ "__name__" := by decide) (hd : (x == ("__debug__" : Str)) = false := by decide) : PE X (.Name x pos) (tC (.ty T)) := pe_bltn hg hm hv rfl hn hd
theorem pk_own {X : Cx} {x : Str} {C : Addr} {pos : Pos} (hg : Gl X x) (hm : X.mg x = some (.ref C)) (hd : (x == ("__debug__" : Str)) = false := by decide) : PE X (.Name x pos) (tC (.ref C)) := pe_glob hg hm rfl hd
section
variable {X : Cx} {S : Sg} {W : XK} {k : Nat} {ic xc : Nat → Bool} {tb : Kd → Option Bool}
theorem tyM_of {ρ : Rho} {H : Hp} {m : Mem} {d : D} {v : V} {t : Kd} (hic : ∀ c, ic c = true → ClsI S.K (S.ca c)) (hxc : ∀ c, xc c = true → ClsE S.K (S.ca c)) (rm : RM S ρ H m) (r : RD S.K ρ H d v) (h : kindOf ic xc d m = some t) : TyM S.K H v (kv S t) := by
  cases d with
  | non =>
    cases h
    rw [RD.of_non r]
    exact .base (.base .non)
  | bl b =>
    cases h
    rw [RD.of_bl r]
    exact .base (.base (.bl b))
  | int i =>
    cases h
    rw [RD.of_int r]
    exact .base (.base (.int i))
  | str x =>
    cases h
    rw [RD.of_str r]
    exact .base (.base (.str _))
  | tup xs =>
    cases h
    obtain ⟨a, ys, e1, s1, r1⟩ := RD.of_tup r
    rw [e1]
    rcases s1 with (s1 | ⟨o, s1⟩) | s1
    · exact .base (.base (.tup s1))
    · exact .base (.fTuple s1)
    · obtain ⟨o, its, n, h1, h2, _⟩ := s1
      exact .base (.kTuple h1 h2)
  | ref n =>
    obtain ⟨a, e1, hr⟩ := RD.of_ref r
    rw [e1]
    have h' : (match m.get n with
      | some (.lst _) => some .lst
      | some (.frz _) => some .lst
      | some (.dic _) => some .dic
      | some (.ins c _) => (match ic c with
        | true => some (.own c)
        | false => none)
      | some (.exc c _) => (match xc c with
        | true => some (.own c)
        | false => none)
      | none => none) = some t := h
    cases e2 : m.get n with
    | none =>
      rw [e2] at h'
      cases h'
    | some o =>
      rw [e2] at h'
      obtain ⟨a2, g1, g2⟩ := rm.ob n o e2
      rw [hr] at g1
      cases g1
      cases o with
      | lst xs =>
        cases h'
        obtain ⟨ys, g3, _⟩ := g2
        exact .base (.base (.lst g3))
      | frz xs =>
        cases h'
        obtain ⟨o, ys, g3, _⟩ := g2
        exact .base (.base (.frz g3))
      | dic kvs =>
        cases h'
        obtain ⟨ks, vs, g3, _⟩ := g2
        exact .base (.base (.dK g3))
      | ins c fs =>
        have h2 : (match ic c with
          | true => some (Kd.own c)
          | false => none) = some t := h'
        cases e3 : ic c with
        | false =>
          rw [e3] at h2
          cases h2
        | true =>
          rw [e3] at h2
          cases h2
          obtain ⟨dx, vs, g3, _⟩ := g2
          obtain ⟨c1, c2, c3, c4, c5⟩ := hic c e3
          exact .base (.base (.ins g3 c1 c2 c3 c4 c5))
      | exc c fs =>
        have h2 : (match xc c with
          | true => some (Kd.own c)
          | false => none) = some t := h'
        cases e3 : xc c with
        | false =>
          rw [e3] at h2
          cases h2
        | true =>
          rw [e3] at h2
          cases h2
          obtain ⟨dx, vs, g3, g4, _⟩ := g2
          exact .exc g3 g4 (hxc c e3)
theorem is_post {ρ : Rho} {H : Hp} {m : Mem} {d : D} {Q : VK} (h : PostV S W (match kindOf ic xc d m with | some t => (match tb t with | some b => .ok (.bl b) m | none => .bad) | none => .bad) ρ H Q) : ∃ t b, kindOf ic xc d m = some t ∧ tb t = some b ∧ PostV S W (.ok (.bl b) m) ρ H Q := by
  cases e1 : kindOf ic xc d m with
  | none =>
    rw [e1] at h
    exact h.elim
  | some t =>
    rw [e1] at h
    have h2 : PostV S W (match tb t with | some b => .ok (.bl b) m | none => .bad) ρ H Q := h
    cases e2 : tb t with
    | none =>
      rw [e2] at h2
      exact h2.elim
    | some b =>
      rw [e2] at h2
      exact ⟨t, b, rfl, e2, h2⟩
variable {x : Str} {p pos : Pos} {a b : Expr} {ca : E}
/-- isinstance(a, T) -/
theorem me_is [c : Ok S W X k] {cv : V} {u : Value} (hcv : ClsV cv u) (htb : ∀ t b, tb t = some b → PySem.W.kitOne S.K (kv S t) u = some b) (hic : ∀ c, ic c = true → ClsI S.K (S.ca c)) (hxc : ∀ c, xc c = true → ClsE S.K (S.ca c)) (ha : PE X a (I S W ca)) (hb : PE X b (tC cv))
    (hg : Gl X "isinstance") (hm : X.mg "isinstance" = none) (he : starEach [a, b] X.env = (false, eval a X.env) :: starEach [b] X.env := by rfl) (he2 : starEach [b] X.env = (false, eval b X.env) :: starEach [] X.env := by rfl) (hpl : (backTo pos (starEach [b] X.env)).any (·.1) = false := by rfl) :
    PE X (.Call (.Name "isinstance" p) [a, b] [] pos) (I S W (eIs ic xc tb ca)) := by
  have eK := c.K
  refine (pe_callB call_isM hg hm (by decide +kernel) (pa_cons ha (pa_cons hb pa_nil he2) he) (by decide) (by decide) he hpl).mono fun σ H Q ⟨ρ, e, m, sr, rm, h⟩ => ?_
  refine (I.step (c := ca) sr rm h).mono fun v H1 ⟨ρ1, d, m1, N, h1⟩ => ?_
  obtain ⟨t, b', h2, h3, h4⟩ := is_post h1
  rw [eK]
  exact ⟨v, cv, kv S t, u, b', rfl, hcv, tyM_of hic hxc N.rm N.rel h2, htb t b' h3, Post.val h4 N.rm RD.bl⟩
/-- isinstance(a, (T, ..)) -/
theorem me_isT [c : Ok S W X k] {cvs : List V} {us : List Value} {bs : List Expr} {n : Nat} {tpos : Pos} (hcv : Paired ClsV cvs us) (htb : ∀ t b, tb t = some b → PySem.W.kitAny S.K (kv S t) us = some b) (hic : ∀ c, ic c = true → ClsI S.K (S.ca c)) (hxc : ∀ c, xc c = true → ClsE S.K (S.ca c)) (ha : PE X a (I S W ca)) (hb : PA X bs (tKs cvs))
    (hg : Gl X "isinstance") (hm : X.mg "isinstance" = none) (hl : lineOk cvs.length = true := by rfl) (he : starEach [a, .Tuple bs n tpos] X.env = (false, eval a X.env) :: starEach [.Tuple bs n tpos] X.env := by rfl) (he2 : starEach [.Tuple bs n tpos] X.env = (false, eval (.Tuple bs n tpos) X.env) :: starEach [] X.env := by rfl) (hpl : (backTo pos (starEach [.Tuple bs n tpos] X.env)).any (·.1) = false := by rfl) :
    PE X (.Call (.Name "isinstance" p) [a, .Tuple bs n tpos] [] pos) (I S W (eIs ic xc tb ca)) := by
  have eK := c.K
  refine (pe_callB call_isMT hg hm (by decide +kernel) (pa_cons ha (pa_cons (pe_tup hb) pa_nil he2) he) (by decide) (by decide) he hpl).mono fun σ H Q ⟨ρ, e, m, sr, rm, h⟩ => ?_
  refine (I.step (c := ca) sr rm h).mono fun v H1 ⟨ρ1, d, m1, N, h1⟩ => ?_
  obtain ⟨t, b', h2, h3, h4⟩ := is_post h1
  rw [eK]
  refine ⟨lineOk_le hl, fun p hp => ?_⟩
  have x1 : Ext ρ1 H1 ρ1 (upd H1 p (.tup cvs)) := ext_upd (none_fix hp)
  have rm1 := N.rm.free (o' := .tup cvs) hp
  exact ⟨v, p, cvs, kv S t, us, b', rfl, upd_same, hcv, tyM_of hic hxc rm1 (N.rel.ext x1) h2, htb t b' h3, Post.val (Post.ext h4 x1) rm1 RD.bl⟩
end

/-! ## The fields of a kept exception -/
def getX (f : Nat) (xc : Nat → Bool) (x : D) (m : Mem) : R D := match x with
  | .ref n => (match m.get n with
    | some (.exc c fs) => (match xc c with
      | true => (match fs.lookup f with
        | some d => .ok d m
        | none => .bad)
      | false => .bad)
    | _ => .bad)
  | _ => .bad
def eXf (f : Nat) (xc : Nat → Bool) (o : E) : E := fun e m => (o e m).bind fun x m1 => getX f xc x m1
section
variable {X : Cx} {S : Sg} {W : XK} {k : Nat} {xc : Nat → Bool} {x : Str} {pos : Pos} {o : Expr} {co : E} {fid : Nat}
theorem me_xf [c : Ok S W X k] (hf : fid < S.nf) (hxc : ∀ c, xc c = true → XfC S.K (S.ca c) ∧ PySem.W.findIn S.K (.ref (S.ca c)) (S.fn fid) = some none) (ho : PE X o (I S W co)) (hx : x = S.fn fid) (hb : attributeBase o x X.env (eval o X.env) = eval o X.env := by rfl) : PE X (.Attribute o x pos) (I S W (eXf fid xc co)) := by
  subst hx
  have eK := c.K
  refine ⟨fun pins s σ H Q I h => ?_⟩
  obtain ⟨ρ, e, m, sr, rm, h⟩ := h
  refine attr_of hb (thn (ho.run pins s σ H _ I (Mi.I.step (c := co) sr rm h)) fun u s1 hh => ?_)
  obtain ⟨v, H1, I1, rx, ρ1, d, m1, N, h1⟩ := hh
  cases d with
  | ref n =>
    obtain ⟨a, e1, hr⟩ := RD.of_ref N.rel
    subst e1
    cases (show u = Value.ref a from rx)
    have h2 : PostV S W (match m1.get n with | some (.exc c fs) => (match xc c with | true => (match fs.lookup fid with | some d => .ok d m1 | none => .bad) | false => .bad) | _ => .bad) ρ1 H1 Q := h1
    cases e2 : m1.get n with
    | none =>
      rw [e2] at h2
      exact h2.elim
    | some ob =>
      rw [e2] at h2
      cases ob with
      | exc cl fs =>
        have h3 : PostV S W (match xc cl with | true => (match fs.lookup fid with | some d => .ok d m1 | none => .bad) | false => .bad) ρ1 H1 Q := h2
        cases e3 : xc cl with
        | false =>
          rw [e3] at h3
          exact h3.elim
        | true =>
          rw [e3] at h3
          have h4 : PostV S W (match fs.lookup fid with | some d => .ok d m1 | none => .bad) ρ1 H1 Q := h3
          cases e4 : fs.lookup fid with
          | none =>
            rw [e4] at h4
            exact h4.elim
          | some d =>
            rw [e4] at h4
            obtain ⟨a2, g1, dx, vs, g2, g3, g4, g5⟩ := N.rm.ob n _ e2
            rw [hr] at g1
            cases g1
            obtain ⟨w, l1, l2⟩ := (lookup_of c.inj hf g5 g4).1 d e4
            obtain ⟨oe, od, J, mA, hl, hrel⟩ := exc_inst I1 g2 g3
            obtain ⟨u', hu, ru⟩ := RelO.some_of (v := w) (o := mA (S.fn fid)) (by rw [← l1]; exact hrel _)
            obtain ⟨T, hno⟩ := hxc cl e3
            rw [← eK] at T hno
            exact HandSPX.exc_get I1.kIn J T.ga T.gg T.exC (PySem.W.findObj_own T.hdC hno rfl (by rw [hl, hu])) (handed_of ru) ⟨w, H1, I1.tok _, ru, Post.val h4 N.rm l2⟩
      | lst _ => exact h2.elim
      | frz _ => exact h2.elim
      | dic _ => exact h2.elim
      | ins _ _ => exact h2.elim
  | _ => exact h1.elim
end
end Mi
end

section
set_option Elab.async false
set_option linter.all false
set_option maxRecDepth 100000
set_option autoImplicit false
set_option maxHeartbeats 1000000
namespace Mi
open PySem PySem.Spec PyProof.Rows L2 TL

/-! ## list.append -/
def eAppend (o a : E) : E := fun e m => (o e m).bind fun x m1 => match x with
  | .ref n => (match m1.get n with
    | some (.lst _) => (a e m1).bind fun y m2 => (match m2.get n with
      | some (.lst xs) => (match lineOk (xs.length + 1) with
        | true => .ok .non (m2.set n (.lst (xs ++ [y])))
        | false => .bad)
      | _ => .bad)
    | _ => .bad)
  | _ => .bad
section
variable {X : Cx} {S : Sg} {W : XK} {k : Nat} {o a : Expr} {co ca : E} {apos cpos : Pos}
theorem me_append [c : Ok S W X k] (ho : PE X o (I S W co)) (ha : PE X a (I S W ca)) (hbase : attributeBase o "append" X.env (eval o X.env) = eval o X.env := by rfl)
    (hfew : ((backTo cpos (starEach [a] X.env)).all (fun x => !x.1) && (backToKw cpos (keywordEach [] X.env)).all (fun x => x.1.isSome)
      && decide (([a] : List Expr).length + ([] : List Keyword).length + (if ([] : List Keyword).isEmpty then 0 else 1) < 30)) = true := by rfl)
    (hline : (apos.endLine == cpos.line) = true := by rfl) (hs : starEach [a] X.env = (false, eval a X.env) :: starEach [] X.env := by rfl) (hplain : (backTo cpos (starEach [] X.env)).any (·.1) = false := by rfl) :
    PE X (.Call (.Attribute o "append" apos) [a] [] cpos) (I S W (eAppend co ca)) := by
  have eK := c.K
  refine (pe_bm PySem.F.plainAttrs_list PySem.F.slot_list_append PySem.F.type_list_append mt_append ho (pa_cons ha pa_nil hs) hbase hfew hline hs hplain).mono fun σ H Q ⟨ρ, e, m, sr, rm, h⟩ => ?_
  rw [eK]
  refine (I.step (c := co) sr rm h).mono fun v H1 ⟨ρ1, x, m1, N, h1⟩ => ?_
  cases x with
  | ref n =>
    obtain ⟨ad, e1, hr⟩ := RD.of_ref N.rel
    have h2 : PostV S W (match m1.get n with
      | some (.lst _) => (ca e m1).bind fun y m2 => (match m2.get n with
        | some (.lst xs) => (match lineOk (xs.length + 1) with
          | true => .ok .non (m2.set n (.lst (xs ++ [y])))
          | false => .bad)
        | _ => .bad)
      | _ => .bad) ρ1 H1 Q := h1
    cases e2 : m1.get n with
    | none =>
      rw [e2] at h2
      exact h2.elim
    | some ob =>
      rw [e2] at h2
      cases ob with
      | lst xs0 =>
        obtain ⟨a1, ys0, g1, g2, g3⟩ := N.rm.lst e2
        rw [hr] at g1
        cases g1
        refine ⟨by rw [e1]; exact .inl ⟨rfl, _, SqL.of g2⟩, ?_⟩
        have h3 : PostV S W ((ca e m1).bind fun y m2 => (match m2.get n with
          | some (.lst xs) => (match lineOk (xs.length + 1) with
            | true => .ok .non (m2.set n (.lst (xs ++ [y])))
            | false => .bad)
          | _ => .bad)) ρ1 H1 Q := h2
        refine (I.step (c := ca) N.sr N.rm h3).mono fun u H2 ⟨ρ2, y, m2, N2, h4⟩ => ?_
        have hr2 := N2.ext.map _ _ hr
        have h5 : PostV S W (match m2.get n with
          | some (.lst xs) => (match lineOk (xs.length + 1) with
            | true => .ok .non (m2.set n (.lst (xs ++ [y])))
            | false => .bad)
          | _ => .bad) ρ2 H2 Q := h4
        cases e3 : m2.get n with
        | none =>
          rw [e3] at h5
          exact h5.elim
        | some ob2 =>
          rw [e3] at h5
          cases ob2 with
          | lst xs =>
            have h6 : PostV S W (match lineOk (xs.length + 1) with
              | true => .ok .non (m2.set n (.lst (xs ++ [y])))
              | false => .bad) ρ2 H2 Q := h5
            cases e4 : lineOk (xs.length + 1) with
            | false =>
              rw [e4] at h6
              exact h6.elim
            | true =>
              rw [e4] at h6
              obtain ⟨a2, ys, k1, k2, k3⟩ := N2.rm.lst e3
              rw [hr2] at k1
              cases k1
              have hl := k3.length
              exact ⟨ad, ys, u, e1, rfl, k2, by have := lineOk_le e4; omega, Post.wlst h6 N2.rm hr2 k2 (k3.append (RDs.cons N2.rel RDs.nil)) RD.non⟩
          | frz _ => exact h5.elim
          | dic _ => exact h5.elim
          | ins _ _ => exact h5.elim
          | exc _ _ => exact h5.elim
      | frz _ => exact h2.elim
      | dic _ => exact h2.elim
      | ins _ _ => exact h2.elim
      | exc _ _ => exact h2.elim
  | _ => exact h1.elim
end

/-! ## str.join, str.split -/
def strsOf : List D → Option (List (List Nat))
  | [] => some []
  | .str x :: r => (match strsOf r with
    | some l => some (x :: l)
    | none => none)
  | _ :: _ => none
def lenSum : List (List Nat) → Nat
  | [] => 0
  | x :: r => x.length + lenSum r
theorem strsOf_map : ∀ {ds : List D} {l : List (List Nat)}, strsOf ds = some l → ds = l.map D.str
  | [], l, h => by
    cases h
    rfl
  | .str x :: r, l, h => by
    have h2 : (match strsOf r with | some l => some (x :: l) | none => none) = some l := h
    cases e : strsOf r with
    | none =>
      rw [e] at h2
      cases h2
    | some l2 =>
      rw [e] at h2
      cases h2
      rw [strsOf_map e]
      rfl
  | .non :: _, _, h => by cases h
  | .bl _ :: _, _, h => by cases h
  | .int _ :: _, _, h => by cases h
  | .tup _ :: _, _, h => by cases h
  | .ref _ :: _, _, h => by cases h
abbrev ofL (x : List Nat) : Str := ⟨x.toArray⟩
theorem tl_ofL (x : List Nat) : tl (ofL x) = x := by
  show (x.toArray).toList = x
  simp
theorem RDs.of_strs {K : PySem.W.Frag} {ρ : Rho} {H : Hp} : ∀ {l : List (List Nat)} {vs : List V}, RDs K ρ H (l.map D.str) vs → vs = (l.map ofL).map V.str
  | [], vs, h => h.of_nil
  | x :: r, vs, h => by
    obtain ⟨y, t, e, r1, r2⟩ := h.of_cons
    rw [e, RD.of_str r1, RDs.of_strs r2]
    rfl
def seqItems (m : Mem) : D → Option (List D)
  | .tup ds => some ds
  | .ref n => lstOf m n
  | _ => none
def fJoin (x y : D) (m : Mem) : R D := match x, seqItems m y with
  | .str a, some ds => (match strsOf ds with
    | some l => (match lineOk (lenSum l + l.length * a.length) with
      | true => .ok (.str (joinL a l)) m
      | false => .bad)
    | none => .bad)
  | _, _ => .bad
def eJoin (o a : E) : E := fun e m => (o e m).bind fun x m1 => match x with
  | .str s => (a e m1).bind fun y m2 => fJoin (.str s) y m2
  | _ => .bad
def sepOk : List Nat → Bool
  | [] => false
  | l => l.all fun c => Nat.blt c 256
def fSplit (x y : D) (m : Mem) : R D := match x, y with
  | .str a, .str b => (match sepOk b && lineOk (a.length + 2) with
    | true => .ok (.ref m.next) (m.new (.lst ((spl b 0 [] a).map D.str)))
    | false => .bad)
  | _, _ => .bad
def eSplit (o a : E) : E := fun e m => (o e m).bind fun x m1 => match x with
  | .str s => (a e m1).bind fun y m2 => fSplit (.str s) y m2
  | _ => .bad
theorem lenSum_eq : ∀ l : List (List Nat), ((l.map ofL).map (·.length)).sum = lenSum l
  | [] => rfl
  | x :: r => by
    rw [List.map_cons, List.map_cons, List.sum_cons, lenSum_eq r, str_len]
    rfl
theorem map_tl (l : List (List Nat)) : (l.map ofL).map tl = l := by
  rw [List.map_map]
  exact (List.map_congr_left fun x _ => tl_ofL x).trans (List.map_id _)
section
variable {X : Cx} {S : Sg} {W : XK} {k : Nat} {o a : Expr} {co ca : E} {apos cpos : Pos}
theorem str_meth {r : V → List V → Hp → VK → Prop} {f : D → D → Mem → R D} (hf : ∀ {ρ : Rho} {H : Hp} {m : Mem} {s : List Nat} {y : D} {v : V} {Q : VK}, RM S ρ H m → RD S.K ρ H y v → PostV S W (f (.str s) y m) ρ H Q → r (.str (ofL s)) [v] H Q)
    {σ : L2.St} {H : Hp} {Q : VK} (h : I S W (fun e m => (co e m).bind fun x m1 => match x with | .str s => (ca e m1).bind fun y m2 => f (.str s) y m2 | _ => .bad) σ H Q) : tBM S.K "str" r (I S W co) (tCons (I S W ca) tNil) σ H Q := by
  obtain ⟨ρ, e, m, sr, rm, h⟩ := h
  refine (I.step (c := co) sr rm h).mono fun v H1 ⟨ρ1, x, m1, N, h1⟩ => ?_
  cases x with
  | str s =>
    have e1 := RD.of_str N.rel
    subst e1
    have h2 : PostV S W ((ca e m1).bind fun y m2 => f (.str s) y m2) ρ1 H1 Q := h1
    refine ⟨rfl, (I.step (c := ca) N.sr N.rm h2).mono fun u H2 ⟨ρ2, y, m2, N2, h3⟩ => ?_⟩
    exact hf N2.rm N2.rel h3
  | _ => exact h1.elim
theorem me_join [c : Ok S W X k] (ho : PE X o (I S W co)) (ha : PE X a (I S W ca)) (hbase : attributeBase o "join" X.env (eval o X.env) = eval o X.env := by rfl)
    (hfew : ((backTo cpos (starEach [a] X.env)).all (fun x => !x.1) && (backToKw cpos (keywordEach [] X.env)).all (fun x => x.1.isSome)
      && decide (([a] : List Expr).length + ([] : List Keyword).length + (if ([] : List Keyword).isEmpty then 0 else 1) < 30)) = true := by rfl)
    (hline : (apos.endLine == cpos.line) = true := by rfl) (hs : starEach [a] X.env = (false, eval a X.env) :: starEach [] X.env := by rfl) (hplain : (backTo cpos (starEach [] X.env)).any (·.1) = false := by rfl) :
    PE X (.Call (.Attribute o "join" apos) [a] [] cpos) (I S W (eJoin co ca)) := by
  have eK := c.K
  refine (pe_bm PySem.F.plainAttrs_str PySem.F.slot_str_join PySem.F.type_str_join mt_join ho (pa_cons ha pa_nil hs) hbase hfew hline hs hplain).mono fun σ H Q h => ?_
  rw [eK]
  refine str_meth (f := fJoin) (fun {ρ H m s y v Q} rm r q => ?_) h
  unfold fJoin at q
  cases e1 : seqItems m y with
  | none =>
    rw [e1] at q
    exact q.elim
  | some ds =>
    rw [e1] at q
    have q1 : PostV S W (match strsOf ds with
      | some l => (match lineOk (lenSum l + l.length * s.length) with
        | true => .ok (.str (joinL s l)) m
        | false => .bad)
      | none => .bad) ρ H Q := q
    cases e2 : strsOf ds with
    | none =>
      rw [e2] at q1
      exact q1.elim
    | some l =>
      rw [e2] at q1
      have q2 : PostV S W (match lineOk (lenSum l + l.length * s.length) with
        | true => .ok (.str (joinL s l)) m
        | false => .bad) ρ H Q := q1
      cases e3 : lineOk (lenSum l + l.length * s.length) with
      | false =>
        rw [e3] at q2
        exact q2.elim
      | true =>
        rw [e3] at q2
        have seq : ∃ p ys, v = .ref p ∧ (SqL S.K H p ys ∨ SqT S.K H p ys) ∧ RDs S.K ρ H ds ys := by
          cases y with
          | tup es =>
            cases e1
            obtain ⟨p, ys, g1, g2, g3⟩ := RD.of_tup r
            exact ⟨p, ys, g1, .inr g2, g3⟩
          | ref n =>
            obtain ⟨p, g1, g2⟩ := RD.of_ref r
            obtain ⟨p2, ys, k1, k2, k3⟩ := rm.lstOf (show lstOf m n = some ds from e1)
            rw [g2] at k1
            cases k1
            exact ⟨p, ys, g1, .inl k2, k3⟩
          | non => cases e1
          | bl _ => cases e1
          | int _ => cases e1
          | str _ => cases e1
        obtain ⟨p, ys, g1, g2, g3⟩ := seq
        rw [strsOf_map e2] at g3
        have g4 := g3.of_strs
        subst g4
        refine ⟨ofL s, p, l.map ofL, rfl, by rw [g1], ?_, ?_, ?_⟩
        · exact g2
        · rw [lenSum_eq, List.length_map, str_len]
          have := lineOk_le e3
          rw [sizeLine_eq] at this
          exact this
        · have e4 : Txt.join (ofL s) (l.map ofL) = ofL (joinL s l) := by
            refine ext_tl ?_
            rw [join_eq, tl_join, map_tl, tl_ofL, tl_ofL]
          rw [e4]
          exact Post.val q2 rm RD.str
theorem sepOk_ok {b : List Nat} (h : sepOk b = true) : b ≠ [] ∧ (ofL b).cps.all (· < 256) = true := by
  cases b with
  | nil => cases h
  | cons c r =>
    refine ⟨by simp, ?_⟩
    have h2 : (c :: r).all (fun c => Nat.blt c 256) = true := h
    show ((c :: r).toArray).all (· < 256) = true
    rw [List.all_eq_true] at h2
    simp only [List.all_toArray, List.all_eq_true]
    intro x hx
    have := h2 x hx
    unfold Nat.blt at this
    have h3 := Nat.le_of_ble_eq_true this
    exact decide_eq_true (Nat.lt_of_succ_le h3)
theorem me_split [c : Ok S W X k] (ho : PE X o (I S W co)) (ha : PE X a (I S W ca)) (hbase : attributeBase o "split" X.env (eval o X.env) = eval o X.env := by rfl)
    (hfew : ((backTo cpos (starEach [a] X.env)).all (fun x => !x.1) && (backToKw cpos (keywordEach [] X.env)).all (fun x => x.1.isSome)
      && decide (([a] : List Expr).length + ([] : List Keyword).length + (if ([] : List Keyword).isEmpty then 0 else 1) < 30)) = true := by rfl)
    (hline : (apos.endLine == cpos.line) = true := by rfl) (hs : starEach [a] X.env = (false, eval a X.env) :: starEach [] X.env := by rfl) (hplain : (backTo cpos (starEach [] X.env)).any (·.1) = false := by rfl) :
    PE X (.Call (.Attribute o "split" apos) [a] [] cpos) (I S W (eSplit co ca)) := by
  have eK := c.K
  refine (pe_bm PySem.F.plainAttrs_str PySem.F.slot_str_split PySem.F.type_str_split mt_split ho (pa_cons ha pa_nil hs) hbase hfew hline hs hplain).mono fun σ H Q h => ?_
  rw [eK]
  refine str_meth (f := fSplit) (fun {ρ H m s y v Q} rm r q => ?_) h
  cases y with
  | str b =>
    have q1 : PostV S W (match sepOk b && lineOk (s.length + 2) with
      | true => .ok (.ref m.next) (m.new (.lst ((spl b 0 [] s).map D.str)))
      | false => .bad) ρ H Q := q
    cases e1 : sepOk b && lineOk (s.length + 2) with
    | false =>
      rw [e1] at q1
      exact q1.elim
    | true =>
      rw [e1] at q1
      obtain ⟨h1, h2⟩ := Bool.and_eq_true_iff.mp e1
      obtain ⟨hb, hk⟩ := sepOk_ok h1
      have e2 := RD.of_str r
      subst e2
      have e3 : (Txt.split (ofL s) (ofL b)) = (spl b 0 [] s).map ofL := by
        refine map_tl_inj ?_
        rw [split_spl _ _ (by rw [tl_ofL]; exact hb) (kind_ok hk), map_tl, tl_ofL, tl_ofL]
      refine ⟨ofL s, ofL b, rfl, rfl, ?_, ?_, ?_⟩
      · rw [str_len]
        cases b with
        | nil => exact absurd rfl hb
        | cons _ _ => rfl
      · rw [str_len]
        exact lineOk_le h2
      · intro p hp
        rw [e3]
        exact Post.lst q1 rm (RDs.strs _) p hp
  | _ => exact q.elim
end
end Mi
end

section
set_option Elab.async false
set_option linter.all false
set_option maxRecDepth 100000
set_option autoImplicit false
set_option maxHeartbeats 1000000
namespace L2
open PySem PySem.Spec PyProof.Rows
/-- tuple * 1, () * k: the tuple itself -/
theorem tuple_mulS (l : Addr) (items : Array Value) (n : Nat) (dd : Option Addr) (sl : Array (Option Value)) (x : Int) (u : Tok) (c0 : (decide (x < -(2 ^ 63)) || decide (x ≥ 2 ^ 63)) = false) (c1 : (items.isEmpty || x == 1) = true) :
    Meets (Builtin.«tuple.__mul__» ⟨[.ref l, .int x u], []⟩) (fun _ R s => s.heap.get? l = some { cls := .type "tuple", dict := dd, data := .seq items n, slots := sl } ∧ R (.ok (.ret (Value.ref l))) s) :=
  .of_wp fun prog w A R s h => by
    obtain ⟨hp, g, d, tk, os⟩ := s
    obtain ⟨hl, h⟩ := h
    have f1 := AutoSeq1.idx_int
    wp_walk using wpAny_loadPart' hl
    repeat (first
      | (refine wpAny_ite_false (decide_eq_false (by rw [c0]; exact Bool.false_ne_true)) ?_; wp_walk using wpAny_loadPart' hl)
      | (refine wpAny_ite_true (decide_eq_true c1) ?_; wp_walk using wpAny_loadPart' hl))
    exact ⟨_, rfl, h⟩
def rRepS (K : PySem.W.Frag) : R2 := fun x y H Q => ∃ l k xs, x = .ref l ∧ y = .int k ∧ SqT K H l xs ∧ (xs = [] ∨ k = 1) ∧ -1000 ≤ k ∧ k ≤ 1000 ∧ Q (.ref l) H
theorem op_repS {X : Cx} : OpR X (binaryOp .Mult) (rRepS X.K) := by
  intro pins s σ H x y v u Q I rx ry h
  obtain ⟨l, k, xs, rfl, rfl, hT, hor, h1, h2, q⟩ := h
  cases rx
  obtain ⟨t, rfl⟩ := ry
  obtain ⟨its, r, ⟨⟨cls, dd, data, sl⟩, ho, hc, n, hd⟩, hs⟩ := I.tuple hT
  simp only at hc hd
  subst hc hd
  have hle : its.length = xs.length := r.length.symm
  have c0 : (decide (k < -(2 ^ 63)) || decide (k ≥ 2 ^ 63)) = false := by
    rw [decide_eq_false (by omega), decide_eq_false (by omega)] <;> rfl
  have c1 : (its.toArray.isEmpty || k == 1) = true := by
    rcases hor with e | e
    · rw [e] at hle
      rw [List.eq_nil_of_length_eq_zero hle] <;> rfl
    · rw [e]
      simp
  refine wpAny_binaryOp_repeat_ref (T := "tuple") (U := "int") (by decide) ⟨_, ho, rfl⟩ (fun s' => typeIs_int s' k t) noFill_tuple_mul F.fills_int_mul F.slot_int_rmul repeat_tuple F.slot_int_index.lookup
    (call_meets F.slot_int_rmul (typeIs_int s k t) F.entry_int_rmul (F.args_int_rmul_2 _ _) (int_rmul_tuple k t l its.toArray n dd sl)
      ⟨ho, rfl, ⟨_, ho, rfl⟩, call_meets F.slot_tuple_mul ⟨_, ho, rfl⟩ F.entry_tuple_mul (F.args_tuple_mul_2 _ _) (tuple_mulS l its.toArray n dd sl k t c0 c1) ⟨ho, ?_⟩⟩)
  exact ⟨.ref l, H, I, rfl, q⟩
section
variable {X : Cx} {CX : CXT} {k : Nat} {f : Addr} {fd : FuncData} {ps ks : List Str} {sp : Sp} {E : XK} {x : Str} {p pos : Pos} {kws : List Keyword} {tk : TA}
/-- f(k = v, ..): every argument by its name, in the parameters' order -/
def KwB (K : PySem.W.Frag) (fd : FuncData) (ps : List Str) : Prop := ∀ (s : Shared) (ws : List Value), K.In s.heap → ws.length = ps.length → BindsTo s fd ⟨[], ps.zip ws⟩ (ps.zip ws)
theorem pe_callK0 (F : FnOk X.prog X.w X.K X.mg X.base CX k f fd ps sp) (hr : Room k X.A) (hg : Gl X x) (hm : X.mg x = some (.ref f)) (hk : PySem.W.keepIn X.K (.ref f) = true) (hb : KwB X.K fd ps) (hx : Passes CX X E)
    (hkw : PK X kws tk) (hall : (backToKw pos (keywordEach kws X.env)).all (·.1.isSome) = true := by rfl) (hks : (backToKw pos (keywordEach kws X.env)).filterMap (·.1) = ps := by rfl)
    (hdb : (x == ("__debug__" : Str)) = false := by decide) (hpl : ((backTo pos (starEach [] X.env)).any (·.1) || (backToKw pos (keywordEach kws X.env)).any (·.1.isNone)) = false := by rfl) :
    PE X (.Call (.Name x p) [] kws pos) (fun σ H Q => tk σ H fun zs H2 => sp zs H2 Q E) := by
  refine ⟨fun pins s σ H Q I h => ?_⟩
  refine wpAny_Call_Name_kw (ld_glob I hg hm ?_ hdb)
  refine PySem.W.callWith_KW0 (h₀ := X.base) I.ok.mod.kin hk hall (thn (hkw.run pos pins s σ H _ I h) fun ws s2 ⟨zs, H2, I2, rz, q2⟩ => ⟨I2.kIn, ?_⟩) hpl
  rw [hks]
  have hl : ws.length = ps.length := by
    rw [← rz.length]
    exact F.len _ _ _ _ q2
  show wpAny _ _ (call (.ref f) [] (ps.zip ws)) _ _ _
  refine wpAny_call (codeAny_mono (F.run X.A X.stack s2 H2 ⟨[], ps.zip ws⟩ ws zs Q E hr I2.env0 (hb s2 ws I2.kIn hl) rz q2) fun r s' hq => ?_)
  cases r with
  | error e => exact hx pins σ H2 s2 e s' I2 hq
  | ok fl =>
    cases fl with
    | ret u => exact I2.after hq
    | next => exact False.elim hq
    | brk => exact False.elim hq
    | cont => exact False.elim hq
end
end L2
namespace Mi
open PySem PySem.Spec PyProof.Rows L2 TL
/-! ## * -/
def opMul : D → D → Mem → R D := fun x y m => match x, y with
  | .int i, .int j => (match mulG i j with
    | some w => .ok (.int w) m
    | none => .bad)
  | .tup xs, .int k => (match (xs.isEmpty || k == 1) && decide (-1000 ≤ k) && decide (k ≤ 1000) with
    | true => .ok (.tup xs) m
    | false => (match decide (2 ≤ k) && decide (k ≤ 1000) && Nat.ble xs.length 1000 && !xs.isEmpty with
      | true => .ok (.tup (List.replicate k.toNat xs).flatten) m
      | false => .bad))
  | .ref n, .int k => (match m.get n with
    | some (.lst xs) => (match decide (-(2 ^ 63) ≤ k) && decide (k < 2 ^ 63) && lineOk (xs.length * k.toNat) with
      | true => .ok (.ref m.next) (m.new (.lst (List.replicate k.toNat xs).flatten))
      | false => .bad)
    | _ => .bad)
  | _, _ => .bad
def rMulA (K : PySem.W.Frag) : R2 := fun x y H Q => rI CMul (fun i j => .int (i * j)) x y H Q ∨ rRepS K x y H Q ∨ rRepT K x y H Q ∨ rRep x y H Q
theorem or_mul {X : Cx} {S : Sg} {W : XK} {k : Nat} [c : Ok S W X k] : OpR X (binaryOp .Mult) (rMulA S.K) := by
  have e := c.K
  rw [← e]
  exact opR_or op_mul (opR_or op_repS (opR_or op_repT op_rep))
theorem RDs.rep {K : PySem.W.Frag} {ρ : Rho} {H : Hp} {ds : List D} {vs : List V} (h : RDs K ρ H ds vs) : ∀ k : Nat, RDs K ρ H (List.replicate k ds).flatten (List.replicate k vs).flatten
  | 0 => RDs.nil
  | k + 1 => by
    rw [List.replicate_succ, List.replicate_succ, List.flatten_cons, List.flatten_cons]
    exact h.append (RDs.rep h k)
theorem om_mul {S : Sg} {W : XK} : OpM S W (rMulA S.K) opMul := by
  intro ρ H m x y x' y' Q rm rx ry q
  cases y with
  | int k =>
    cases x with
    | int i => exact .inl (om_muli rm rx ry q)
    | tup xs =>
      obtain ⟨a, ys, e1, s1, r1⟩ := RD.of_tup rx
      have e2 := RD.of_int ry
      have q1 : PostV S W (match (xs.isEmpty || k == 1) && decide (-1000 ≤ k) && decide (k ≤ 1000) with
        | true => .ok (.tup xs) m
        | false => (match decide (2 ≤ k) && decide (k ≤ 1000) && Nat.ble xs.length 1000 && !xs.isEmpty with
          | true => .ok (.tup (List.replicate k.toNat xs).flatten) m
          | false => .bad)) ρ H Q := q
      cases e3 : (xs.isEmpty || k == 1) && decide (-1000 ≤ k) && decide (k ≤ 1000) with
      | true =>
        rw [e3] at q1
        simp only [Bool.and_eq_true, Bool.or_eq_true, decide_eq_true_eq, beq_iff_eq, List.isEmpty_iff] at e3
        obtain ⟨⟨h1, h2⟩, h3⟩ := e3
        refine .inr (.inl ⟨a, k, ys, e1, e2, s1, ?_, h2, h3, by rw [← e1]; exact Post.val q1 rm rx⟩)
        rcases h1 with h1 | h1
        · left
          rw [h1] at r1
          exact r1.of_nil
        · exact .inr h1
      | false =>
        rw [e3] at q1
        have q2 : PostV S W (match decide (2 ≤ k) && decide (k ≤ 1000) && Nat.ble xs.length 1000 && !xs.isEmpty with
          | true => .ok (.tup (List.replicate k.toNat xs).flatten) m
          | false => .bad) ρ H Q := q1
        cases e4 : decide (2 ≤ k) && decide (k ≤ 1000) && Nat.ble xs.length 1000 && !xs.isEmpty with
        | false =>
          rw [e4] at q2
          exact q2.elim
        | true =>
          rw [e4] at q2
          simp only [Bool.and_eq_true, decide_eq_true_eq, Bool.not_eq_true'] at e4
          obtain ⟨⟨⟨h1, h2⟩, h3⟩, h4⟩ := e4
          have hl := r1.length
          have h3' := Nat.le_of_ble_eq_true h3
          refine .inr (.inr (.inl ⟨a, k, ys, e1, e2, s1, fun z => ?_, h1, h2, by omega, fun p hp => Post.tup q2 rm (r1.rep _) p hp⟩))
          rw [z] at hl
          rw [List.eq_nil_of_length_eq_zero hl] at h4
          cases h4
    | ref n =>
      obtain ⟨a, e1, hr⟩ := RD.of_ref rx
      have e2 := RD.of_int ry
      have q1 : PostV S W (match m.get n with
        | some (.lst xs) => (match decide (-(2 ^ 63) ≤ k) && decide (k < 2 ^ 63) && lineOk (xs.length * k.toNat) with
          | true => .ok (.ref m.next) (m.new (.lst (List.replicate k.toNat xs).flatten))
          | false => .bad)
        | _ => .bad) ρ H Q := q
      cases e3 : m.get n with
      | none =>
        rw [e3] at q1
        exact q1.elim
      | some ob =>
        rw [e3] at q1
        cases ob with
        | lst xs =>
          have q2 : PostV S W (match decide (-(2 ^ 63) ≤ k) && decide (k < 2 ^ 63) && lineOk (xs.length * k.toNat) with
            | true => .ok (.ref m.next) (m.new (.lst (List.replicate k.toNat xs).flatten))
            | false => .bad) ρ H Q := q1
          cases e4 : decide (-(2 ^ 63) ≤ k) && decide (k < 2 ^ 63) && lineOk (xs.length * k.toNat) with
          | false =>
            rw [e4] at q2
            exact q2.elim
          | true =>
            rw [e4] at q2
            simp only [Bool.and_eq_true, decide_eq_true_eq] at e4
            obtain ⟨⟨h1, h2⟩, h3⟩ := e4
            obtain ⟨a2, ys, g1, g2, g3⟩ := rm.lst e3
            rw [hr] at g1
            cases g1
            have hl := g3.length
            refine .inr (.inr (.inr ⟨a, k, ys, e1, e2, g2, h1, h2, by rw [← hl]; exact lineOk_le h3, fun p hp => Post.lst q2 rm (g3.rep _) p hp⟩))
        | frz _ => exact q1.elim
        | dic _ => exact q1.elim
        | ins _ _ => exact q1.elim
        | exc _ _ => exact q1.elim
    | _ => exact q.elim
  | _ =>
    cases x <;> exact q.elim

/-! ## Calls by keywords, displays of dicts -/
def IK (S : Sg) (W : XK) (c : Es) : TA := IA S W c
section
variable {X : Cx} {S : Sg} {W : XK} {x : Str} {p pos kpos : Pos} {e : Expr} {kws : List Keyword} {ca : E} {cs : Es} {F : Fn} {k j n : Nat} {f : Addr} {fd : FuncData} {ps : List Str} {nm : Option Str}
theorem mk_nil : PK X [] (IA S W esNil) := ⟨fun pos pins s σ H Q I h => L2.pk_nil.run pos pins s σ H Q I (by
  obtain ⟨ρ, e, m, sr, rm, h⟩ := h
  exact Post.here h rm RDs.nil)⟩
theorem mk_cons (ha : PE X e (Mi.I S W ca)) (hr : PK X kws (IA S W cs)) : PK X (⟨nm, e, kpos⟩ :: kws) (IA S W (esCons ca cs)) := ⟨fun pos pins s σ H Q I h => (L2.pk_cons ha hr).run pos pins s σ H Q I (by
  obtain ⟨ρ, e, m, sr, rm, h⟩ := h
  exact (Mi.I.step (c := ca) sr rm h).mono fun v H1 ⟨ρ1, x, m1, N, h1⟩ => (IA.step (c := cs) N.sr N.rm h1).mono fun vs H2 ⟨ρ2, xs, m2, N2, h2⟩ => Post.here h2 N2.rm (RDs.cons (N.rel.ext N2.ext) N2.rel))⟩
theorem me_callK0 [c : Ok S W X k] (hF : FnOk X.prog X.w X.K X.mg X.base (L2.CX X.prog X.w) j f fd ps (spF S F n)) (hg : Gl X x) (hm : X.mg x = some (.ref f)) (hk : PySem.W.keepIn X.K (.ref f) = true) (hb : KwB X.K fd ps) (hkw : PK X kws (IA S W cs))
    (hj : j ≤ k) (hall : (backToKw pos (keywordEach kws X.env)).all (·.1.isSome) = true := by rfl) (hks : (backToKw pos (keywordEach kws X.env)).filterMap (·.1) = ps := by rfl)
    (hdb : (x == ("__debug__" : Str)) = false := by decide) (hpl : ((backTo pos (starEach [] X.env)).any (·.1) || (backToKw pos (keywordEach kws X.env)).any (·.1.isNone)) = false := by rfl) :
    PE X (.Call (.Name x p) [] kws pos) (Mi.I S W (eFn F n [] cs)) :=
  (pe_callK0 hF (c.room.mono hj) hg hm hk hb c.pass hkw hall hks hdb hpl).mono fun σ H Q h => (fn_mono (dds := []) (dvs := []) rfl h).mono fun vs H2 q => by
    rw [List.append_nil] at q
    exact q
end
/-- {}, {k: v} -/
def eDic0 : E := fun _ m => .ok (.ref m.next) (m.new (.dic []))
def eDic1 (k : List Nat) (v : E) : E := fun e m => (v e (m.new (.dic []))).bind fun y m1 => match m1.get m.next with
  | some (.dic []) => .ok (.ref m.next) (m1.set m.next (.dic [(.str k, y)]))
  | _ => .bad
section
variable {X : Cx} {S : Sg} {W : XK} {pos kp : Pos} {v : Expr} {cv : E} {j : Nat}
theorem me_dic0 : PE X (.Dict [] [] pos) (I S W eDic0) := pe_dnewK.mono fun σ H Q ⟨ρ, e, m, sr, rm, h⟩ p hp =>
  h _ _ _ (rm.extNew hp) (rm.new hp ⟨[], [], upd_same, rfl, RDs.nil, RDs.nil⟩) (RD.ref (rnew_self _ _ _))
theorem me_dic1 {x : Str} (l : List Nat) (hv : PE X v (I S W cv)) (hx : x = ⟨l.toArray⟩ := by rfl) : PE X (.Dict [some (.Constant (.str x) j kp)] [v] pos) (I S W (eDic1 l cv)) := by
  subst hx
  refine (pe_disp (pps_cons pe_str hv pps_nil) rfl rfl (by simp) (show 1 ≤ 15 by decide)).mono fun σ H Q ⟨ρ, e, m, sr, rm, h⟩ p hp => ?_
  have x1 : Ext ρ H (rnew ρ m p) (upd H p (.dK [])) := rm.extNew hp
  have rm1 : RM S (rnew ρ m p) (upd H p (.dK [])) (m.new (.dic [])) := rm.new hp ⟨[], [], upd_same, rfl, RDs.nil, RDs.nil⟩
  refine (I.step (c := cv) (sr.ext x1) rm1 (Post.ext h x1)).mono fun u H2 ⟨ρ2, y, m2, N, h2⟩ => ?_
  have h3 : PostV S W (match m2.get m.next with
    | some (.dic []) => .ok (.ref m.next) (m2.set m.next (.dic [(.str l, y)]))
    | _ => .bad) ρ2 H2 Q := h2
  cases e1 : m2.get m.next with
  | none =>
    rw [e1] at h3
    exact h3.elim
  | some ob =>
    rw [e1] at h3
    cases ob with
    | dic kvs =>
      cases kvs with
      | cons _ _ => exact h3.elim
      | nil =>
        have hr : ρ2 m.next = some p := N.ext.map _ _ (rnew_self _ _ _)
        obtain ⟨a, g1, ks, vs, g2, g3, g4, g5⟩ := N.rm.ob _ _ e1
        rw [hr] at g1
        cases g1
        have e2 : vs = [] := g5.of_nil
        subst e2
        have e3 : ks.zip ([] : List V) = [] := by cases ks <;> rfl
        rw [e3] at g2
        have hf : ∀ u, H2 p = some u → ¬ Fix u := fun u e => by
          rw [g2] at e
          cases e
          exact fix_dK
        refine ⟨g2, [(.inr ⟨l.toArray⟩, u)], rfl, by show 1 ≤ 15; decide, ?_⟩
        have x2 : Ext ρ2 H2 ρ2 (upd H2 p (.dK [(.inr ⟨l.toArray⟩, u)])) := ext_upd hf
        exact h3 _ _ _ x2 (N.rm.set hr hf ⟨[.inr ⟨l.toArray⟩], [u], upd_same, rfl, RDs.cons RD.str RDs.nil, RDs.cons (N.rel.ext x2) RDs.nil⟩) (RD.ref hr)
    | lst _ => exact h3.elim
    | frz _ => exact h3.elim
    | ins _ _ => exact h3.elim
    | exc _ _ => exact h3.elim
end
end Mi
end

section
set_option Elab.async false
set_option linter.all false
set_option maxRecDepth 100000
set_option autoImplicit false
set_option maxHeartbeats 2000000
/-! The head's facts: as He's, own exceptions with super().__init__ besides. -/
namespace Hz
open PySem PySem.Spec PyProof.Rows L2 He
/-! ### an own exception class -/
structure XcD where
  name : Str
  fs : List Str
  qual : Str
  pa : Arguments
  bd : List Stmt
  sc : Scope
abbrev XnV : Type := Option (Str × Str × Arguments × FuncBody × Scope × Addr × List Str × Value × Value × Addr)
def ini (K : PySem.W.Frag) (x : Str) : Addr := ma K (ga K x) "__init__"
def xObs (K : PySem.W.Frag) (x : Str) : XnV := match K.lookup (ini K x) with
  | some ⟨_, _, .func fd, _⟩ => some (fd.name, fd.qualname, fd.params, fd.body, fd.scope, fd.globals, fd.closure.map (·.1), fd.defaults, fd.kwdefaults, fd.builtins)
  | _ => none
def XcD.val (d : XcD) : XnV := some ("__init__", d.qual, d.pa, .stmts d.bd, d.sc, mainGlobals, ["__class__"], .none, .none, builtinsNs)
/-- the class object -/
def clsB (K : PySem.W.Frag) (C : Addr) : Bool := match K.lookup C with
  | some ⟨.type "type", _, .cls cd, sl⟩ => (match cd.mro, sl.toList with
    | .ref C' :: bm, [_, _, _, _, some (.builtin n), _] => C' == C && n == "ValueError.__new__" && !cd.hasDel && cd.hasDict && HandSPX.refsVE bm && decide (PySem.W.alongIn K "__init__" bm = some (some (.builtin "ValueError.__init__")))
    | _, _ => false)
  | _ => false
theorem clsB_ok {K : PySem.W.Frag} {C : Addr} (q : clsB K C = true) : ∃ nm q N bs bm sn sub ab col dd k0 k1 k2 k3 k5, K.lookup C = some (excClassObj nm q C N bs bm true sn sub ab col dd k0 k1 k2 k3 k5 "ValueError.__new__") ∧ HandSPX.refsVE bm = true ∧ PySem.W.alongIn K "__init__" bm = some (some (.builtin "ValueError.__init__")) := by
  unfold clsB at q
  split at q
  · rename_i dd cd sl ho
    split at q
    · rename_i C' bm k0 k1 k2 k3 n k5 hm hs
      simp only [Bool.and_eq_true, beq_iff_eq, Bool.not_eq_true', decide_eq_true_eq] at q
      obtain ⟨⟨⟨⟨⟨rfl, rfl⟩, hdel⟩, hdict⟩, hve⟩, hal⟩ := q
      obtain ⟨nm, bs, mro, ns, qn, hd, sn, sub, ab, col, del⟩ := cd
      dsimp only at hm hdel hdict
      subst hm hdel hdict
      have hsl : sl = #[k0, k1, k2, k3, some (.builtin "ValueError.__new__"), k5] := by
        obtain ⟨l⟩ := sl
        simp only at hs
        rw [hs]
      subst hsl
      exact ⟨nm, qn, ns, bs, bm, sn, sub, ab, col, dd, k0, k1, k2, k3, k5, ho, hve, hal⟩
    · cases q
  · cases q
/-- the cell, the code object of the __init__ at fI -/
def celB (K : PySem.W.Frag) (fI C : Addr) (qual file : Str) : Bool := match K.lookup fI with
  | some ⟨_, _, .func fd, _⟩ => (match fd.closure, fd.code with
    | [(_, cc)], .ref cda => PySem.W.codeIn K (.ref cda) qual && ((match K.lookup cc with
      | some ⟨_, _, .cell (some (.ref D)), _⟩ => D == C
      | _ => false) && (match K.lookup cda with
      | some ⟨_, _, .fields vs, _⟩ => (match (generalizing := false) (vs[2]? : Option Value) with
        | some (.str f _) => decide (f = file)
        | _ => false)
      | _ => false))
    | _, _ => false)
  | _ => false
def xB (K : PySem.W.Frag) (file : Str) (d : XcD) : Bool :=
  clsB K (ga K d.name) && (decide (PySem.W.findIn K (.ref (ga K d.name)) "__setattr__" = some (some (.builtin "object.__setattr__"))) && (xfB K (ga K d.name) && ((d.fs.all fun f => decide (PySem.W.findIn K (.ref (ga K d.name)) f = some none)) &&
    (decide (PySem.W.findIn K (.ref (ga K d.name)) "__init__" = some (some (.ref (ini K d.name)))) && (decide (PySem.W.typeIn K (.ref (ini K d.name)) = some (.type "function")) && (PySem.W.keepIn K (.ref (ga K d.name)) &&
    (decide (PySem.W.typeIn K (.ref (ga K d.name)) = some (.type "type")) && (decide (PySem.W.nsIn K cStatics "thirdparty.any" = some none) && (decide (PySem.W.nsIn K mainGlobals "super" = some none) &&
    (decide (PySem.W.subIn K (.ref (ga K d.name)) (.type "ValueError") = some true) && celB K (ini K d.name) (ga K d.name) d.qual file))))))))))
theorem xB_ok {K : PySem.W.Frag} {P : Program} {d : XcD} {file : Str} (h : xB K file d = true) (e : xObs K d.name = d.val) (hf : (P.main.file : Str) = file) (htop : (P.main.scope.names.lookup ("super" : Str)).isSome = false) : MX.ExT K P (ga K d.name) (ini K d.name) d.fs d.qual d.pa d.bd d.sc := by
  obtain ⟨h1, h⟩ := ba h
  obtain ⟨h2, h⟩ := ba h
  obtain ⟨h3, h⟩ := ba h
  obtain ⟨h4, h⟩ := ba h
  obtain ⟨h5, h⟩ := ba h
  obtain ⟨h6, h⟩ := ba h
  obtain ⟨h7, h⟩ := ba h
  obtain ⟨h8, h⟩ := ba h
  obtain ⟨h9, h⟩ := ba h
  obtain ⟨h10, h⟩ := ba h
  obtain ⟨h11, h12⟩ := ba h
  refine ⟨clsB_ok h1, of_decide_eq_true h2, xfB_ok h3, fun f hf => of_decide_eq_true (List.all_eq_true.mp h4 f hf), of_decide_eq_true h5, of_decide_eq_true h6, h7, of_decide_eq_true h8, of_decide_eq_true h9, of_decide_eq_true h10, htop, of_decide_eq_true h11, ?_⟩
  unfold xObs at e
  unfold celB at h12
  cases q : K.lookup (ini K d.name) with
  | none =>
    rw [q] at h12
    cases h12
  | some o =>
    obtain ⟨oc, od, dt, osl⟩ := o
    rw [q] at h12 e
    cases dt with
    | func fd =>
      obtain ⟨n1, n2, n3, n4, n5, n6, n7, n8, n9, n10, n11, n12, n13, n14, n15⟩ := fd
      have e2 : (some (n1, n2, n3, n4, n5, n6, n7.map (·.1), n8, n9, n15) : XnV) = some (("__init__" : Str), d.qual, d.pa, .stmts d.bd, d.sc, mainGlobals, [("__class__" : Str)], .none, .none, builtinsNs) := e
      simp only [Option.some.injEq, Prod.mk.injEq] at e2
      obtain ⟨k1, k2, k3, k4, k5, k6, k7, k8, k9, k10⟩ := e2
      subst k1 k2 k3 k4 k5 k6 k8 k9 k10
      have h13 : (match (generalizing := false) n7, n13 with
        | [(_, cc)], .ref cda => PySem.W.codeIn K (.ref cda) d.qual && ((match K.lookup cc with
          | some ⟨_, _, .cell (some (.ref D)), _⟩ => D == ga K d.name
          | _ => false) && (match K.lookup cda with
          | some ⟨_, _, .fields vs, _⟩ => (match (generalizing := false) (vs[2]? : Option Value) with
            | some (.str f _) => decide (f = file)
            | _ => false)
          | _ => false))
        | _, _ => false) = true := h12
      cases n7 with
      | nil => cases k7
      | cons p r =>
        cases r with
        | cons _ _ => simp at k7
        | nil =>
          obtain ⟨y, cc⟩ := p
          have ey : y = ("__class__" : Str) := by simpa using k7
          subst ey
          cases n13 with
          | ref cda =>
            obtain ⟨j1, j⟩ := ba h13
            obtain ⟨j2, j3⟩ := ba j
            cases qc : K.lookup cc with
            | none =>
              rw [qc] at j2
              cases j2
            | some oc2 =>
              obtain ⟨cl, cld, cdt, csl⟩ := oc2
              rw [qc] at j2
              cases cdt with
              | cell v =>
                cases v with
                | none => cases j2
                | some v =>
                  cases v with
                  | ref D =>
                    have eD : D = ga K d.name := beq_iff_eq.mp j2
                    subst eD
                    cases qd : K.lookup cda with
                    | none =>
                      rw [qd] at j3
                      cases j3
                    | some od2 =>
                      obtain ⟨ccl, cdd, ddt, ccs⟩ := od2
                      rw [qd] at j3
                      cases ddt with
                      | fields vs =>
                        have j4 : (match (generalizing := false) (vs[2]? : Option Value) with
                          | some (.str f _) => decide (f = file)
                          | _ => false) = true := j3
                        cases qv : vs[2]? with
                        | none =>
                          rw [qv] at j4
                          cases j4
                        | some v2 =>
                          rw [qv] at j4
                          cases v2 with
                          | str f tf =>
                            have ef : f = file := of_decide_eq_true j4
                            subst ef
                            exact ⟨oc, od, _, _, _, _, cda, cc, _, osl, ccl, cdd, vs, ccs, f, tf, cl, cld, csl, rfl, j1, qd, qv, by rw [hf]; exact beq_self_eq_true f, qc⟩
                          | _ => cases j4
                      | _ => cases j3
                  | _ => cases j2
              | _ => cases j2
          | _ => cases h13
    | _ => cases h12
/-! ### the Hook -/
def notList (o : Obj) : Bool := !decide (o.cls = .type "list")
abbrev frZ (g : Addr → Option Obj) (n : Nat) : PySem.W.Frag := (frT g (cStatics :: asD g n)).filter fun q => notList q.2
theorem frZ_mem {g : Addr → Option Obj} {n : Nat} {a : Addr} {o : Obj} (h : (frZ g n).lookup a = some o) : g a = some o ∧ emptyTab o = false ∧ notList o = true := by
  obtain ⟨h1, h2⟩ := List.mem_filter.mp (lookup_mem h)
  obtain ⟨h3, h4⟩ := List.mem_filter.mp h1
  refine ⟨frG_mem h3, ?_, h2⟩
  cases q : emptyTab o with
  | false => rfl
  | true =>
    have h5 : (!emptyTab o) = true := h4
    rw [q] at h5
    cases h5
theorem frZ_none {g : Addr → Option Obj} {n : Nat} {a : Addr} {o : Obj} (h : g a = some o) (ht : emptyTab o = true) : (frZ g n).lookup a = none := by
  cases e : (frZ g n).lookup a with
  | none => rfl
  | some u =>
    obtain ⟨h1, h2, _⟩ := frZ_mem e
    rw [h] at h1
    rw [← Option.some.inj h1, ht] at h2
    cases h2
structure SaysZ (fa : List Fa) (fn : List DefD) (tf : List Defn) (xs : List XcD) (ex : PySem.W.Frag → Bool) (file : Str) (w : World) (h : Heap) (K : PySem.W.Frag) : Prop where
  d : SaysD fa fn K
  nol : ∀ a o, K.lookup a = some o → notList o = true
  more : ex K = true
  exc : ∀ x ∈ xs, xB K file x = true ∧ xObs K x.name = x.val
  hd : ∀ p ∈ tf, PySem.W.codeHdIn K (cT K p).1 (cT K p).2 = true
  out : ∀ p ∈ tf, K.lookup (cT K p).2 = none
  empty : ∀ p ∈ tf, h.get? (cT K p).2 = some { cls := .none, data := .fields #[] }
abbrev AlZ : Type := AlD × Bool × List XnV
def obsZ (n : Nat) (fa : List Fa) (fn : List DefD) (tf : List Defn) (xs : List XcD) (ex : PySem.W.Frag → Bool) (file : Str) (g : Addr → Option Obj) : AlZ :=
  (obsD fa fn (frZ g n), ex (frZ g n) && (tabsB g tf (frZ g n) && xs.all fun x => xB (frZ g n) file x), xs.map fun x => xObs (frZ g n) x.name)
def valZ (fn : List DefD) (xs : List XcD) : AlZ := (valD fn, true, xs.map XcD.val)
theorem saysZ_of {n : Nat} {fa : List Fa} {fn : List DefD} {tf : List Defn} {xs : List XcD} {ex : PySem.W.Frag → Bool} {file : Str} {w : World} {h : Heap} (e : obsZ n fa fn tf xs ex file h.get? = valZ fn xs) : SaysZ fa fn tf xs ex file w h (frZ h.get? n) := by
  have e1 : obsD fa fn (frZ h.get? n) = valD fn := congrArg (fun z : AlZ => z.1) e
  have e2 : (ex (frZ h.get? n) && (tabsB h.get? tf (frZ h.get? n) && xs.all fun x => xB (frZ h.get? n) file x)) = true := congrArg (fun z : AlZ => z.2.1) e
  have e3 : (xs.map fun x => xObs (frZ h.get? n) x.name) = xs.map XcD.val := congrArg (fun z : AlZ => z.2.2) e
  obtain ⟨h1, h2⟩ := ba e2
  obtain ⟨h2, h3⟩ := ba h2
  have key : ∀ p ∈ tf, PySem.W.codeHdIn (frZ h.get? n) (cT (frZ h.get? n) p).1 (cT (frZ h.get? n) p).2 = true ∧ ∃ o, h.get? (cT (frZ h.get? n) p).2 = some o ∧ emptyTab o = true := fun p hp => by
    obtain ⟨h3, h4⟩ := ba (List.all_eq_true.mp h2 p hp)
    refine ⟨h3, ?_⟩
    cases q : h.get? (cT (frZ h.get? n) p).2 with
    | none =>
      rw [q] at h4
      cases h4
    | some o =>
      rw [q] at h4
      exact ⟨o, rfl, h4⟩
  refine ⟨e1, fun a o e => (frZ_mem e).2.2, h1, fun x hx => ⟨List.all_eq_true.mp h3 x hx, ?_⟩, fun p hp => (key p hp).1, fun p hp => ?_, fun p hp => ?_⟩
  · obtain ⟨i, hi, ei⟩ := List.mem_iff_getElem.mp hx
    have e4 : (xs.map fun x => xObs (frZ h.get? n) x.name)[i]? = (xs.map XcD.val)[i]? := by rw [e3]
    rw [List.getElem?_map, List.getElem?_map, List.getElem?_eq_getElem hi, ei] at e4
    exact Option.some.inj e4
  · obtain ⟨_, o, q, z⟩ := key p hp
    exact frZ_none q z
  · obtain ⟨_, o, q, z⟩ := key p hp
    rw [q, emptyTab_eq z]
def hookZ (n : Nat) (fa : List Fa) (fn : List DefD) (tf : List Defn) (xs : List XcD) (ex : PySem.W.Frag → Bool) (file : Str) : PySem.W.Hook where
  α := AlZ
  obs := fun s => obsZ n fa fn tf xs ex file s.heap.get?
  val := fun _ => valZ fn xs
  says := fun w h => ∃ K : PySem.W.Frag, K.In h ∧ SaysZ fa fn tf xs ex file w h K
  of := fun _ _ e => ⟨_, fun _ _ e => (frZ_mem e).1, saysZ_of e⟩
  keeps := fun _ _ _ ⟨K, hK, c⟩ k => ⟨K, PySem.W.Frag.In.keeps hK k, ⟨c.d, c.nol, c.more, c.exc, c.hd, c.out, fun p hp => k _ _ (c.empty p hp)⟩⟩
theorem obsZ_eq {n : Nat} {fa : List Fa} {fn : List DefD} {tf : List Defn} {xs : List XcD} {ex : PySem.W.Frag → Bool} {file : Str} {g : Addr → Option Obj} {s : Shared} (h : ∀ a, g a = s.heap.get? a) : obsZ n fa fn tf xs ex file g = (hookZ n fa fn tf xs ex file).obs s := by
  have e : g = s.heap.get? := funext h
  rw [e] <;> rfl
/-! ### facts by index -/
/-- classes' facts for isinstance -/
def insB (K : PySem.W.Frag) (x : Str) : Bool := decide (PySem.W.findIn K (.ref (ga K x)) "__class__" = some (some (.builtin "object.__class__"))) && (decide (PySem.W.specialIn K (.builtin "object.__class__") "__get__" = some (some (.builtin "getset_descriptor.__get__"))) && (decide (PySem.W.takesIn K (.builtin "object.__class__") = some true) &&
  decide (PySem.W.mroIn K (ga K x) (.type "object") = some true)))
theorem insE_ok {K : PySem.W.Frag} {x : Str} (h : insB K x = true) (h' : xfB K (ga K x) = true) : Mi.ClsE K (ga K x) := by
  obtain ⟨h1, h⟩ := ba h
  obtain ⟨h2, h⟩ := ba h
  obtain ⟨h3, h4⟩ := ba h
  exact ⟨xfB_ok h', of_decide_eq_true h1, of_decide_eq_true h2, of_decide_eq_true h3, of_decide_eq_true h4⟩
theorem insI_ok {K : PySem.W.Frag} {x : Str} (h : insB K x = true) (h' : Cls K (ga K x)) : Mi.ClsI K (ga K x) := by
  obtain ⟨h1, h⟩ := ba h
  obtain ⟨h2, h⟩ := ba h
  obtain ⟨h3, h4⟩ := ba h
  exact ⟨h', of_decide_eq_true h1, of_decide_eq_true h2, of_decide_eq_true h3, of_decide_eq_true h4⟩
end Hz
end

section
set_option Elab.async false
set_option linter.all false
set_option maxRecDepth 100000
set_option autoImplicit false
set_option maxHeartbeats 1000000
/-! What the printed derivations lean on besides. -/
namespace Mi
open PySem PySem.Spec PyProof.Rows L2 He
theorem inj_of (l : List Str) (h : l.Nodup) : ∀ i j, i < l.length → j < l.length → l.getD i Str.empty = l.getD j Str.empty → i = j := fun i j hi hj e => by
  rw [List.getD_eq_getElem?_getD, List.getD_eq_getElem?_getD, List.getElem?_eq_getElem hi, List.getElem?_eq_getElem hj] at e
  exact L2.nodup_ix h (List.getElem?_eq_getElem hi) (by rw [List.getElem?_eq_getElem hj]; exact congrArg some e.symm)
/-- built-in types -/
def kitBs (a : String) : List String → Option Bool
  | [] => some false
  | b :: r => match kitB a b with
    | some true => some true
    | some false => kitBs a r
    | none => none
theorem kitBs_ok {K : PySem.W.Frag} {a : String} : ∀ {l : List String} {r : Bool}, kitBs a l = some r → PySem.W.kitAny K (.type a) (l.map .type) = some r
  | [], r, h => h
  | b :: l, r, h => by
    have h2 : (match kitB a b with | some true => some true | some false => kitBs a l | none => none) = some r := h
    show (match PySem.W.kitOne K (.type a) (.type b) with | some true => some true | some false => PySem.W.kitAny K (.type a) (l.map .type) | none => none) = some r
    cases e : kitB a b with
    | none =>
      rw [e] at h2
      cases h2
    | some x =>
      rw [e] at h2
      rw [kit_ty (K := K) e]
      cases x with
      | true => exact h2
      | false => exact kitBs_ok (l := l) h2
/-- the answer of isinstance of built-in types, by a table -/
def tbB (l : List String) : Kd → Option Bool
  | .non => kitBs "NoneType" l
  | .bl => kitBs "bool" l
  | .int => kitBs "int" l
  | .str => kitBs "str" l
  | .tup => kitBs "tuple" l
  | .lst => kitBs "list" l
  | .dic => kitBs "dict" l
  | .own _ => none
theorem tbB_any {S : Sg} {l : List String} {tb : Kd → Option Bool} (h : ∀ t b, tb t = some b → tbB l t = some b) : ∀ t b, tb t = some b → PySem.W.kitAny S.K (kv S t) (l.map .type) = some b := fun t b e => by
  have e2 := h t b e
  cases t with
  | own c => cases e2
  | _ => exact kitBs_ok e2
theorem kit_single {K : PySem.W.Frag} {t u : Value} {b : Bool} (h : PySem.W.kitAny K t [u] = some b) : PySem.W.kitOne K t u = some b := by
  have h2 : (match PySem.W.kitOne K t u with | some true => some true | some false => some false | none => none) = some b := h
  cases e : PySem.W.kitOne K t u with
  | none =>
    rw [e] at h2
    cases h2
  | some x =>
    rw [e] at h2
    cases x <;> exact h2
theorem tbB_one {S : Sg} {T : String} {tb : Kd → Option Bool} (h : ∀ t b, tb t = some b → tbB [T] t = some b) : ∀ t b, tb t = some b → PySem.W.kitOne S.K (kv S t) (.type T) = some b := fun t b e => kit_single (tbB_any (S := S) h t b e)
def noC : Nat → Bool := fun _ => false
theorem noC_any {α : Nat → Prop} : ∀ c, noC c = true → α c := fun c h => nomatch h
theorem fld1 {S : Sg} {f c : Nat} (h : f < S.nf) (hc : Cls S.K (S.ca c)) (hn : NoAttr S.K (S.ca c) (S.fn f)) : FldOk S f [c] := ⟨h, fun c' h' => by
  cases h' with
  | head => exact ⟨hc, hn⟩
  | tail _ h' => cases h'⟩
theorem om_inadd {S : Sg} {W : XK} : OpM S W L2.rAdd (intOp fun i j => some (i + j)) := by
  intro ρ H m x y x' y' Q rm rx ry q
  cases x with
  | int i =>
    cases y with
    | int j => exact ⟨i, j, RD.of_int rx, RD.of_int ry, Post.val q rm RD.int⟩
    | _ => exact q.elim
  | _ => exact q.elim
theorem ex_at {l : List Bool} (h : l.all id = true) (i : Nat) {b : Bool} (e : l[i]? = some b) : b = true := by
  have := List.all_eq_true.mp h b (List.mem_of_getElem? e)
  exact this
/-! ### binding -/
theorem bindL0 {params : Arguments} {body : Expr} {scope : Scope} (h : ∀ (q : Str) (cl : List (Str × Addr)) (doc pm cv ctv : Value), bindArgs (PySem.W.kdv_fn "<lambda>" q params (.expr body) scope cl .none doc pm cv ctv) ⟨[], []⟩ = pure []) : Lm.BindL params body scope [] :=
  fun s H fs q cl dV doc pm cv ctv its hl hd => by
    have e : its = [] := List.eq_nil_of_length_eq_zero hl
    subst e
    rcases hd with ⟨rfl, _⟩ | ⟨T, _, h0, _⟩
    · exact BindsTo.of_eq (h q cl doc pm cv ctv)
    · exact absurd rfl h0
theorem bindL1 {params : Arguments} {body : Expr} {scope : Scope} {x : Str} {i : Int} (h : ∀ (T : Addr) (q : Str) (cl : List (Str × Addr)) (doc pm cv ctv u : Value), ∃ k, bindArgs (PySem.W.kdv_fn "<lambda>" q params (.expr body) scope cl (.ref T) doc pm cv ctv) ⟨[], []⟩ = seqItems? (.ref T) >>= k ∧ k (some #[u]) = pure [(x, u)]) : Lm.BindL params body scope [(x, i)] :=
  fun s H fs q cl dV doc pm cv ctv its hl hd => by
    match its, hl with
    | [u], _ =>
      rcases hd with ⟨_, z⟩ | ⟨T, rfl, _, ho, _⟩
      · cases z
      · obtain ⟨k, h1, h2⟩ := h T q cl doc pm cv ctv u
        exact BindsTo.of_defaults rfl ho rfl h1 h2
theorem kwB_of {K : PySem.W.Frag} {x qual : Str} {params : Arguments} {body : List Stmt} {scope : Scope} {kws : List (Str × V)} {f : Addr} {fd : FuncData} {ps : List Str} (F : FunD K x qual params body scope [] kws f fd)
    (h : ∀ (kV doc pm : Value) (an : Option Addr) (cdv ct : Value) (ws : List Value), ws.length = ps.length → bindArgs (PySem.W.fnOf x qual params body scope .none kV doc pm an cdv ct) ⟨[], ps.zip ws⟩ = pure (ps.zip ws)) : KwB K fd ps := by
  obtain ⟨oc, od, dV, kV, doc, pm, an, cdv, ct, osl, rfl, lk, hcd, hD, hK⟩ := F.ex
  rcases hD with ⟨_, rfl⟩ | ⟨e, _⟩
  · exact fun s ws _ hl => BindsTo.of_eq (h kV doc pm an cdv ct ws hl)
  · exact absurd rfl e
/-- a def that makes lambdas: its code object is known -/
theorem fn_okC {P : Program} {w : World} {S : Sg} {mg : Str → Option Value} {base : Heap} {x qual : Str} {params : Arguments} {body : List Stmt} {scope : Scope} {dvs : List V} {kws : List (Str × V)} {p : Defn} {fd : FuncData} {N ps : List Str} {k : Nat} {c : Sm}
    (F : FunD S.K x qual params body scope dvs kws (fAd S.K p) fd) (Sc : FnScope N ps scope) (inj : ∀ i j, i < S.nf → j < S.nf → S.fn i = S.fn j → i = j)
    (hbody : ∀ (cdv : Value) (A : Around) (outer : List Env) (s : Shared) (H : Hp) (E : XK) (hcode : cdv = .ref (codeOf S.K p)) [Ok S E (cxOf (L2.CX P w) P w S.K mg base N qual scope (fAd S.K p) cdv A outer s H E) k] [OkR E (cxOf (L2.CX P w) P w S.K mg base N qual scope (fAd S.K p) cdv A outer s H E)],
      PSs (cxOf (L2.CX P w) P w S.K mg base N qual scope (fAd S.K p) cdv A outer s H E) body (IS S E c)) :
    FnOk P w S.K mg base (L2.CX P w) (k + 1) (fAd S.K p) fd ps (spF S (fnM N.length c) ps.length) := by
  obtain ⟨oc, od, dV, kV, doc, pm, an, cdv, ct, osl, rfl, lk, hcd, _, _⟩ := F.ex
  obtain ⟨c0, rfl⟩ := codeIn_ref hcd
  have e := codeOf_eq (p := p) lk rfl
  refine fn_of lk hcd Sc (fun vs H Q E h => spF_len h) fun A outer s H vs Q E hr h => ?_
  have tk : Takes (cxOf (L2.CX P w) P w S.K mg base N qual scope (fAd S.K p) (.ref c0) A outer s H E) (fun cls d _ H => E cls d H) := takes_of rfl rfl rfl rfl
  have i1 : Ok S E (cxOf (L2.CX P w) P w S.K mg base N qual scope (fAd S.K p) (.ref c0) A outer s H E) k :=
    ⟨rfl, passes_call tk fun _ _ _ _ h => h, passes_of rfl, rfl, hr, inj⟩
  have i2 : OkR E (cxOf (L2.CX P w) P w S.K mg base N qual scope (fAd S.K p) (.ref c0) A outer s H E) := ⟨tk⟩
  refine ⟨_, hbody (.ref c0) A outer s H E (by rw [e]), ?_⟩
  obtain ⟨ρ, ds, m, r, l, rm, h⟩ := h
  refine ⟨ρ, _, m, SR.start r, rm, ?_⟩
  have h' : PostV S E (match c (ds.map some ++ List.replicate (N.length - ds.length) none) m with
    | .rt d m1 => .ok d m1
    | .nx _ m1 => .ok .non m1
    | .err x m1 => .err x m1
    | .bk _ _ => .bad
    | .ct _ _ => .bad
    | .bad => .bad) ρ H Q := h
  revert h'
  cases c (ds.map some ++ List.replicate (N.length - ds.length) none) m with
  | rt d m1 => exact fun h' ρ2 H2 v x a b => h' ρ2 H2 v x a b
  | nx e m1 => exact fun h' ρ2 H2 σ2 x a b => h' ρ2 H2 .non x a RD.non
  | err x m1 => exact fun h' => h'
  | bk e m1 => exact fun h' => h'.elim
  | ct e m1 => exact fun h' => h'.elim
  | bad => exact fun h' => h'.elim
/-- what the head tells -/
structure Pk (fa : List Fa) (fn : List DefD) (tf : List Defn) (xs : List Hz.XcD) (ex : PySem.W.Frag → Bool) (file : Str) (w : World) (K : PySem.W.Frag) (mg : Str → Option Value) (h : Heap) : Prop where
  says : Hz.SaysZ fa fn tf xs ex file w h K
  kin : K.In h
  gl : h.Ns mainGlobals mg
section
variable {fa : List Fa} {fn : List DefD} {tf : List Defn} {xs : List Hz.XcD} {ex : PySem.W.Frag → Bool} {file : Str} {w : World} {K : PySem.W.Frag} {mg : Str → Option Value} {h : Heap}
theorem Pk.glo (c : Pk fa fn tf xs ex file w K mg h) (i : Nat) {x : Str} (e : fa[i]? = some (.glo x) := by rfl) : mg x = some (.ref (ga K x)) := glo_ok c.kin c.gl (c.says.d.fact i e)
theorem Pk.free (c : Pk fa fn tf xs ex file w K mg h) (i : Nat) {x : Str} (e : fa[i]? = some (.free x) := by rfl) : mg x = none := free_ok c.kin c.gl (c.says.d.fact i e)
theorem Pk.cls (c : Pk fa fn tf xs ex file w K mg h) (i : Nat) {x : Str} (e : fa[i]? = some (.cls x) := by rfl) : Cls K (ga K x) := cls_ok (c.says.d.fact i e)
theorem Pk.noat (c : Pk fa fn tf xs ex file w K mg h) (i : Nat) {x f : Str} (e : fa[i]? = some (.noat x f) := by rfl) : NoAttr K (ga K x) f := noat_ok (c.says.d.fact i e)
theorem Pk.meth (c : Pk fa fn tf xs ex file w K mg h) (i : Nat) {x m : Str} (e : fa[i]? = some (.meth x m) := by rfl) : Meth K (ga K x) m (ma K (ga K x) m) := meth_ok (c.says.d.fact i e)
theorem Pk.mkr (c : Pk fa fn tf xs ex file w K mg h) (i : Nat) {x : Str} (e : fa[i]? = some (.mkr x) := by rfl) : Mk K (ga K x) (ma K (ga K x) "__init__") := mkr_ok (c.says.d.fact i e)
theorem Pk.exm (c : Pk fa fn tf xs ex file w K mg h) (i : Nat) {x y : Str} {b : Bool} (e : fa[i]? = some (.exm x y b) := by rfl) : PySem.W.exmOne K (.ref (ga K x)) (.ref (ga K y)) = some b := exm_ok (c.says.d.fact i e)
end
end Mi
end

section
set_option Elab.async false
set_option linter.all false
set_option maxRecDepth 100000
set_option autoImplicit false
set_option maxHeartbeats 1000000
/-! The end: the law's mirror answers True, so the row holds. -/
namespace Mi
open PySem PySem.Spec PyProof.Rows L2 He
/-- the memory at the law's entry: the script, owned or only read -/
def mem0 (own : Bool) (ns : List Int) : Mem := (Mem.mk 0 .lf).new (if own then .lst (ns.map .int) else .frz (ns.map .int))
theorem lstOf0 (own : Bool) (ns : List Int) : lstOf (mem0 own ns) 0 = some (ns.map .int) := by
  cases own <;> rfl
theorem RDs.ints {K : PySem.W.Frag} {ρ : Rho} {H : Hp} : ∀ (ns : List Int), RDs K ρ H (ns.map .int) (ns.map V.int)
  | [] => RDs.nil
  | _ :: r => RDs.cons RD.int (RDs.ints r)
theorem rm0 {S : Sg} {H : Hp} {a : Addr} {ns : List Int} {own : Bool} (ho : ObR S (fun n => if n = 0 then some a else none) H a (if own then .lst (ns.map .int) else .frz (ns.map .int))) (hT : ∀ p ∈ S.T, H p.1 = some (.tbl #[])) :
    RM S (fun n => if n = 0 then some a else none) H (mem0 own ns) := by
  have z : ∀ (n : Nat) (b : Addr), (if n = 0 then some a else none) = some b → n = 0 ∧ b = a := fun n b h => by
    split at h
    · rename_i e
      exact ⟨e, (Option.some.inj h).symm⟩
    · cases h
  have g : ∀ n, (mem0 own ns).get n = if n = 0 then some (if own then .lst (ns.map .int) else .frz (ns.map .int)) else none := fun n => by
    unfold mem0
    rw [Mem.get_new]
    rfl
  refine ⟨fun n b h => ?_, fun n k b h1 h2 => ?_, fun n o h => ?_, fun n b h => ?_, fun p hp => LamX.TabS.nil (hT p hp)⟩
  · rw [(z n b h).1]
    exact Nat.zero_lt_one
  · rw [(z n b h1).1, (z k b h2).1]
  · rw [g] at h
    split at h
    · rename_i e
      cases h
      exact ⟨a, if_pos e, ho⟩
    · cases h
  · rw [g, if_pos (z n b h).1]
    exact ⟨_, rfl⟩
/-- what the law's promise asks at the entry -/
theorem law_start {S : Sg} {F : Fn} {H : Hp} {a : Addr} {ns : List Int} (nol : ∀ b o, S.K.lookup b = some o → Hz.notList o = true) (hT : ∀ p ∈ S.T, H p.1 = some (.tbl #[])) (hS : SqL S.K H a (ns.map V.int))
    (hF : ∀ own : Bool, ∃ m', F [.ref 0] (mem0 own ns) = .ok (.bl true) m') : spF S F 1 [.ref a] H (fun v _ => v = .bl true) fun _ _ _ => False := by
  have key : ∀ own : Bool, ObR S (fun n => if n = 0 then some a else none) H a (if own then .lst (ns.map .int) else .frz (ns.map .int)) → spF S F 1 [.ref a] H (fun v _ => v = .bl true) fun _ _ _ => False := fun own ho => by
    obtain ⟨m', e⟩ := hF own
    refine ⟨_, [.ref 0], mem0 own ns, RDs.cons (RD.ref (if_pos rfl)) RDs.nil, rfl, rm0 ho hT, ?_⟩
    rw [e]
    exact fun ρ' H' b _ _ r => RD.of_bl r
  rcases hS with (h | ⟨o, h⟩) | ⟨o, its, n, h1, h2, _⟩
  · exact key true ⟨_, h, RDs.ints ns⟩
  · exact key false ⟨o, _, h, RDs.ints ns⟩
  · have q := nol a o h1
    unfold Hz.notList at q
    rw [decide_eq_true h2] at q
    cases q
/-- the law's promise at the head's heap -/
theorem law_at {l : PySem.W.OpenLaw} {w : World} {fa : List Fa} {fn : List DefD} {tf : List Defn} {xs : List Hz.XcD} {ex : PySem.W.Frag → Bool} {file : Str} {K : PySem.W.Frag} {mg : Str → Option Value} {h : Heap} {S : Sg} {F : Fn} {k n : Nat} {x : Str} {f : Addr} {fd : FuncData}
    (c : Pk fa fn tf xs ex file w K mg h) (hK : S.K = K) (hT : S.T.map (·.1) = (tf.map (cT K)).map (·.2)) (hbind : ∀ (s : Shared) (u : Value), BindsTo s fd ⟨[u], []⟩ [(x, u)])
    (hF : ∀ (ns : List Int) (own : Bool), ns.length ≤ n → (∀ z ∈ ns, Builtin.Int.intBits z ≤ 1048576) → ∃ m', F [.ref 0] (mem0 own ns) = .ok (.bl true) m')
    (hok : ∀ base : Heap, K.In base → base.Ns mainGlobals mg → (∀ p ∈ tf.map (cT K), LamX.TabB base mg p.1 p.2) → FnOk l.prog w K mg base (L2.CX l.prog w) k f fd [x] (spF S F 1)) :
    LamX.LawAtS l w K (L2.CX l.prog w) k n x mg f h := by
  subst hK
  refine ⟨fd, tf.map (cT S.K), spF S F 1, fun p hp => ?_, fun p hp => ?_, fun p hp => ?_, hbind, fun H a ns hl hb hH hS => ?_, hok⟩
  · obtain ⟨q, hq, e⟩ := List.mem_map.mp hp
    rw [← e]
    exact c.says.empty q hq
  · obtain ⟨q, hq, e⟩ := List.mem_map.mp hp
    rw [← e]
    exact c.says.out q hq
  · obtain ⟨q, hq, e⟩ := List.mem_map.mp hp
    rw [← e]
    exact PySem.W.codeHd_of_K c.kin (c.says.hd q hq)
  · refine law_start c.says.nol (fun p hp => ?_) hS fun own => hF ns own hl hb
    have h1 : p.1 ∈ S.T.map (·.1) := List.mem_map.mpr ⟨p, hp, rfl⟩
    rw [hT] at h1
    obtain ⟨q, hq, e⟩ := List.mem_map.mp h1
    rw [← e]
    exact hH q hq
end Mi
end

section
set_option Elab.async false
set_option linter.all false
set_option maxRecDepth 100000
set_option autoImplicit false
set_option maxHeartbeats 1000000
/-! for over what is a list or a tuple. -/
namespace L2
open PySem PySem.Spec PyProof.Rows
def iSeq (K : PySem.W.Frag) (tl : TE) : TI := fun σ H R => tl σ H fun x H1 => ∃ a, x = .ref a ∧ (((∃ xs, SqL K H1 a xs) ∧ R (Itl K a) H1) ∨ ((∃ xs, SqT K H1 a xs) ∧ R (Itt K a) H1))
theorem pi_seq {X : Cx} {tg l : Expr} {tl : TE} (hl : PE X l tl) : PI X tg l (iSeq X.K tl) := by
  refine ⟨fun pins s σ H R I h => ?_⟩
  refine thn (hl.run pins s σ H _ I h) fun v s1 ⟨x, H1, I1, r1, q1⟩ => ?_
  obtain ⟨a, e, q1⟩ := q1
  subst e
  cases r1
  rcases q1 with ⟨⟨xs, hq⟩, q⟩ | ⟨⟨xs, hq⟩, q⟩
  · obtain ⟨its, rv, p, hz⟩ := I1.list hq
    refine wpAny_pyIter_list p.isList ?_
    refine ⟨s1.heap.objs.size, [s1.heap.objs.size], _, _, H1, rfl, I1.kept (t' := s1.toks) fun b o e => Heap.get?_push_of_some _ e, turn_list a _, ⟨_, Heap.get?_push_size _ rfl, rfl, rfl⟩, fun b hb => ?_, q⟩
    have e : b = s1.heap.objs.size := by simpa using hb
    subst e
    exact I1.fpOk (Nat.le_refl _) (I1.hok.fresh (Nat.le_refl _))
  · obtain ⟨its, rv, p, hz⟩ := I1.tuple hq
    refine wpAny_pyIter_tuple (show s1.heap.IsTuple a its.toArray from p) ?_
    refine ⟨s1.heap.objs.size, [s1.heap.objs.size], _, _, H1, rfl, I1.kept (t' := s1.toks) fun b o e => Heap.get?_push_of_some _ e, turn_tuple a _, ⟨_, Heap.get?_push_size _ rfl, rfl, rfl⟩, fun b hb => ?_, q⟩
    have e : b = s1.heap.objs.size := by simpa using hb
    subst e
    exact I1.fpOk (Nat.le_refl _) (I1.hok.fresh (Nat.le_refl _))
end L2
namespace Mi
open PySem PySem.Spec PyProof.Rows L2
theorem mi_seq {X : Cx} {S : Sg} {W : XK} {k : Nat} {tg a : Expr} {ca : E} [c : Ok S W X k] (ha : PE X a (I S W ca)) : PI X tg a (II S W (srcSeq ca)) := by
  have eK := c.K
  refine PI.mono (pi_seq ha) fun σ H Q ⟨ρ, e, m, sr, rm, h⟩ => ?_
  rw [eK]
  refine (I.step (c := ca) sr rm h).mono fun v H1 ⟨ρ1, d, m1, N, h1⟩ => ?_
  cases d with
  | tup xs =>
    obtain ⟨ad, ys, e1, s1, r1⟩ := RD.of_tup N.rel
    exact ⟨ad, e1, .inr ⟨⟨ys, s1⟩, Post.here (show Post S (fun ρ H (a : Nat × Itm) J => ItOk S ρ H J a.2) W (.ok (xs.length + 1, itTup xs) m1) ρ1 H1 Q from h1) N.rm (it_tup s1 r1)⟩⟩
  | ref n =>
    obtain ⟨ad, e1, hr⟩ := RD.of_ref N.rel
    have h2 : Post S (fun ρ H (a : Nat × Itm) J => ItOk S ρ H J a.2) W (match lstOf m1 n with | some xs => .ok (xs.length + 1, itLst n) m1 | none => .bad) ρ1 H1 Q := h1
    cases q : lstOf m1 n with
    | none =>
      rw [q] at h2
      exact h2.elim
    | some xs =>
      rw [q] at h2
      obtain ⟨a2, ys, g1, g2, g3⟩ := N.rm.lstOf q
      rw [hr] at g1
      cases g1
      exact ⟨ad, e1, .inl ⟨⟨ys, g2⟩, Post.here h2 N.rm (it_lst hr)⟩⟩
  | _ => exact h1.elim
end Mi
end

section
set_option Elab.async false
set_option linter.all false
set_option maxRecDepth 100000
set_option maxHeartbeats 4000000
namespace K81
open PySem PySem.Spec PyProof.Rows L2 He Mi
def top (i : Nat) : Stmt := PySem.Challenge.pw_samecourse_k81_texts_of_courses.main.body.getD i (.Pass ⟨0, 0, 0, 0⟩)
abbrev P : Program := PySem.Challenge.pw_samecourse_k81_texts_of_courses

abbrev sf__law_pen : Stmt := top 30
def df__law_pen : DefD := ⟨("_law_pen", none), "_law_pen", "_law_pen", defArgs sf__law_pen, defBody sf__law_pen, defScope sf__law_pen, [], []⟩
abbrev sf__law_draw : Stmt := top 31
def df__law_draw : DefD := ⟨("_law_draw", none), "_law_draw", "_law_draw", defArgs sf__law_draw, defBody sf__law_draw, defScope sf__law_draw, [], []⟩
abbrev sf__law_pick : Stmt := top 32
def df__law_pick : DefD := ⟨("_law_pick", none), "_law_pick", "_law_pick", defArgs sf__law_pick, defBody sf__law_pick, defScope sf__law_pick, [], []⟩
abbrev sf__law_course : Stmt := top 34
def df__law_course : DefD := ⟨("_law_course", none), "_law_course", "_law_course", defArgs sf__law_course, defBody sf__law_course, defScope sf__law_course, [], []⟩
abbrev sf_is_listed : Stmt := top 19
def df_is_listed : DefD := ⟨("is_listed", none), "is_listed", "is_listed", defArgs sf_is_listed, defBody sf_is_listed, defScope sf_is_listed, [], []⟩
abbrev sf_is_course : Stmt := top 21
def df_is_course : DefD := ⟨("is_course", none), "is_course", "is_course", defArgs sf_is_course, defBody sf_is_course, defScope sf_is_course, [], []⟩
abbrev sf_course_text : Stmt := top 27
def df_course_text : DefD := ⟨("course_text", none), "course_text", "course_text", defArgs sf_course_text, defBody sf_course_text, defScope sf_course_text, [], []⟩
abbrev sf_Lines___init__ : Stmt := inClass (top 24) 0
def df_Lines___init__ : DefD := ⟨("Lines", some "__init__"), "__init__", "Lines.__init__", defArgs sf_Lines___init__, defBody sf_Lines___init__, defScope sf_Lines___init__, [.int 0], []⟩
abbrev sf_Line___init__ : Stmt := inClass (top 23) 0
def df_Line___init__ : DefD := ⟨("Line", some "__init__"), "__init__", "Line.__init__", defArgs sf_Line___init__, defBody sf_Line___init__, defScope sf_Line___init__, [], []⟩
abbrev sf_lines_of : Stmt := top 25
def df_lines_of : DefD := ⟨("lines_of", none), "lines_of", "lines_of", defArgs sf_lines_of, defBody sf_lines_of, defScope sf_lines_of, [], []⟩
abbrev sf_Lines_is_read : Stmt := inClass (top 24) 2
def df_Lines_is_read : DefD := ⟨("Lines", some "is_read"), "is_read", "Lines.is_read", defArgs sf_Lines_is_read, defBody sf_Lines_is_read, defScope sf_Lines_is_read, [], []⟩
abbrev sf_Lines_refuse : Stmt := inClass (top 24) 4
def df_Lines_refuse : DefD := ⟨("Lines", some "refuse"), "refuse", "Lines.refuse", defArgs sf_Lines_refuse, defBody sf_Lines_refuse, defScope sf_Lines_refuse, [], []⟩
abbrev sf_Lines_take_line : Stmt := inClass (top 24) 6
def df_Lines_take_line : DefD := ⟨("Lines", some "take_line"), "take_line", "Lines.take_line", defArgs sf_Lines_take_line, defBody sf_Lines_take_line, defScope sf_Lines_take_line, [], []⟩
abbrev sf_Line_is_read : Stmt := inClass (top 23) 1
def df_Line_is_read : DefD := ⟨("Line", some "is_read"), "is_read", "Line.is_read", defArgs sf_Line_is_read, defBody sf_Line_is_read, defScope sf_Line_is_read, [], []⟩
abbrev sf_Line_refuse : Stmt := inClass (top 23) 3
def df_Line_refuse : DefD := ⟨("Line", some "refuse"), "refuse", "Line.refuse", defArgs sf_Line_refuse, defBody sf_Line_refuse, defScope sf_Line_refuse, [], []⟩
abbrev sf_Line_take_word : Stmt := inClass (top 23) 4
def df_Line_take_word : DefD := ⟨("Line", some "take_word"), "take_word", "Line.take_word", defArgs sf_Line_take_word, defBody sf_Line_take_word, defScope sf_Line_take_word, [], []⟩
abbrev sf_Line_need_one_of : Stmt := inClass (top 23) 6
def df_Line_need_one_of : DefD := ⟨("Line", some "need_one_of"), "need_one_of", "Line.need_one_of", defArgs sf_Line_need_one_of, defBody sf_Line_need_one_of, defScope sf_Line_need_one_of, [], []⟩
abbrev sf_read_course : Stmt := top 28
def df_read_course : DefD := ⟨("read_course", none), "read_course", "read_course", defArgs sf_read_course, defBody sf_read_course, defScope sf_read_course, [], []⟩
abbrev sf__law_bad : Stmt := top 35
def df__law_bad : DefD := ⟨("_law_bad", none), "_law_bad", "_law_bad", defArgs sf__law_bad, defBody sf__law_bad, defScope sf__law_bad, [], []⟩
abbrev sf__law_heard : Stmt := top 33
def df__law_heard : DefD := ⟨("_law_heard", none), "_law_heard", "_law_heard", defArgs sf__law_heard, defBody sf__law_heard, defScope sf__law_heard, [], []⟩
abbrev sf_law : Stmt := top 36
def df_law : DefD := ⟨("law", none), "law", "law", defArgs sf_law, defBody sf_law, defScope sf_law, [], []⟩
def fn : List DefD := [df__law_pen, df__law_draw, df__law_pick, df__law_course, df_is_listed, df_is_course, df_course_text, df_Lines___init__, df_Line___init__, df_lines_of, df_Lines_is_read, df_Lines_refuse, df_Lines_take_line, df_Line_is_read, df_Line_refuse, df_Line_take_word, df_Line_need_one_of, df_read_course, df__law_bad, df__law_heard, df_law]
def fa : List Fa := [.glo "_wall", .glo "CodeError", .glo "BadInput", .glo "Refused", .glo "BadName", .glo "BadCode", .glo "BadStep", .glo "BadCourse", .glo "BadTable", .glo "BadValue", .glo "BadPaper", .glo "BadLine", .glo "BadText", .glo "Unlike", .glo "Nothing", .glo "TooMany", .glo "ANSWERS", .glo "is_listed", .glo "is_course", .glo "Line", .glo "Lines", .glo "lines_of", .glo "course_text", .glo "read_course", .glo "_law_pen", .glo "_law_draw", .glo "_law_pick", .glo "_law_heard", .glo "_law_course", .glo "_law_bad", .glo "law", .free "list", .free "range", .free "int", .free "len", .free "abs", .free "tuple", .free "isinstance", .free "str", .free "all", .cls "Lines", .noat "Lines" "line_list", .noat "Lines" "ahead", .noat "Lines" "spot", .free "enumerate", .cls "Line", .noat "Line" "line_at", .noat "Line" "word_list", .noat "Line" "spot", .mkr "Line", .mkr "Lines", .meth "Lines" "is_read", .meth "Lines" "refuse", .meth "Lines" "take_line", .meth "Line" "is_read", .meth "Line" "refuse", .meth "Line" "take_word", .meth "Line" "need_one_of", .exm "BadCourse" "CodeError" true, .exm "BadText" "CodeError" true]
def ps_BadCourse : MX.P1 := ⟨⟨28, 17, 28, 21⟩, ⟨28, 23, 28, 27⟩, ⟨29, 8, 29, 13⟩, ⟨29, 8, 29, 15⟩, ⟨29, 8, 29, 24⟩, ⟨29, 8, 29, 30⟩, ⟨29, 25, 29, 29⟩, ⟨29, 8, 29, 30⟩, ⟨30, 8, 30, 12⟩, ⟨30, 8, 30, 17⟩, ⟨30, 20, 30, 24⟩, ⟨30, 8, 30, 24⟩⟩
def xd_BadCourse : Hz.XcD := ⟨"BadCourse", ["part"], "BadCourse.__init__", MX.iA1 "part" ps_BadCourse, MX.iB1 "part" ps_BadCourse, MX.iS1 "part"⟩
theorem tx_BadCourse : MX.Tx1 "part" ps_BadCourse := ⟨⟨by decide, by decide, by decide, by decide⟩, fun _ _ _ _ _ _ _ _ _ _ => rfl, fun _ _ _ _ _ => ⟨_, rfl⟩⟩
def ps_BadText : MX.P2 := ⟨⟨53, 17, 53, 21⟩, ⟨53, 23, 53, 27⟩, ⟨53, 29, 53, 33⟩, ⟨54, 8, 54, 13⟩, ⟨54, 8, 54, 15⟩, ⟨54, 8, 54, 24⟩, ⟨54, 8, 54, 36⟩, ⟨54, 25, 54, 29⟩, ⟨54, 31, 54, 35⟩, ⟨54, 8, 54, 36⟩, ⟨55, 8, 55, 12⟩, ⟨55, 8, 55, 17⟩, ⟨55, 20, 55, 24⟩, ⟨55, 8, 55, 24⟩, ⟨56, 8, 56, 12⟩, ⟨56, 8, 56, 17⟩, ⟨56, 20, 56, 24⟩, ⟨56, 8, 56, 24⟩⟩
def xd_BadText : Hz.XcD := ⟨"BadText", ["line", "word"], "BadText.__init__", MX.iA2 "line" "word" ps_BadText, MX.iB2 "line" "word" ps_BadText, MX.iS2 "line" "word"⟩
theorem tx_BadText : MX.Tx2 "line" "word" ps_BadText := ⟨⟨by decide, by decide, by decide, by decide⟩, ⟨by decide, by decide, by decide, by decide⟩, by decide, fun _ _ _ _ _ _ _ _ _ _ _ => rfl, fun _ _ _ _ _ => ⟨_, rfl⟩⟩
def xs : List Hz.XcD := [xd_BadCourse, xd_BadText]
def tf : List Defn := [df_law.at_]
def exl (K : PySem.W.Frag) : List Bool := [tupB K "ANSWERS" [.str "yes", .str "no"], decide (PySem.W.kitAny K (.ref (ga K "BadText")) [.ref (ga K "BadText")] = some true), decide (PySem.W.kitAny K (.ref (ga K "BadCourse")) [.ref (ga K "BadText")] = some false), Hz.insB K "BadText", xfB K (ga K "BadText"), Hz.insB K "BadCourse", xfB K (ga K "BadCourse"), decide (PySem.W.findIn K (.ref (ga K "BadText")) "line" = some none), decide (PySem.W.findIn K (.ref (ga K "BadCourse")) "line" = some none), decide (PySem.W.findIn K (.ref (ga K "BadText")) "word" = some none), decide (PySem.W.findIn K (.ref (ga K "BadCourse")) "word" = some none), decide (PySem.W.kitAny K (.ref (ga K "BadText")) [.ref (ga K "BadValue"), .ref (ga K "BadPaper"), .ref (ga K "Unlike"), .ref (ga K "Nothing"), .ref (ga K "BadTable"), .ref (ga K "BadCode"), .ref (ga K "BadCourse")] = some false), decide (PySem.W.kitAny K (.ref (ga K "BadCourse")) [.ref (ga K "BadValue"), .ref (ga K "BadPaper"), .ref (ga K "Unlike"), .ref (ga K "Nothing"), .ref (ga K "BadTable"), .ref (ga K "BadCode"), .ref (ga K "BadCourse")] = some true), decide (PySem.W.findIn K (.ref (ga K "BadText")) "part" = some none), decide (PySem.W.findIn K (.ref (ga K "BadCourse")) "part" = some none)]
def ex (K : PySem.W.Frag) : Bool := (exl K).all id
def file : Str := P.main.file
abbrev R : PySem.W.OpenRow := PySem.W.OpenLaw.row PySem.Challenge.rw_samecourse_k81_texts_of_courses
abbrev hk : PySem.W.Hook := Hz.hookZ 6 fa fn tf xs ex file
def ob (s : PySem.W.SharedT) : Hz.AlZ := Hz.obsZ 6 fa fn tf xs ex file (HandSHeadRun.getT s)
theorem ob_eq (s : PySem.W.SharedT) : ob s = hk.obs s.abs := Hz.obsZ_eq (HandSHeadRun.getT_eq s)
def loose1 : List PySem.Str := ["_wall", "CodeError", "BadInput", "Refused", "BadName", "BadCode", "BadStep", "BadCourse", "BadTable", "BadValue", "BadPaper", "BadLine", "BadText", "Unlike", "Nothing", "TooMany", "ANSWERS", "is_listed", "is_course", "Line", "Lines", "lines_of", "course_text", "read_course", "_law_pen", "_law_draw", "_law_pick", "_law_heard", "_law_course", "_law_bad"]
def loose2 : List PySem.Str := []
theorem run (w : World) : HandSHeadRun.RunEq R (PySem.W.view R.prog [36]) hk ob 6000 (loose1 ++ loose2) w := by
  intro os
  kernel_rfl
end K81
end

section
set_option Elab.async false
set_option linter.all false
set_option maxRecDepth 100000
set_option maxHeartbeats 4000000
namespace K81
open PySem PySem.Spec PyProof.Rows L2 He Mi
def cln : List Str := ["Line", "Lines", "CodeError", "BadInput", "Refused", "BadName", "BadCode", "BadStep", "BadCourse", "BadTable", "BadValue", "BadPaper", "BadLine", "BadText", "Unlike", "Nothing", "TooMany"]
def fnm : List Str := ["part", "line", "word", "line_list", "ahead", "spot", "line_at", "word_list", "is_read", "refuse", "take_line", "take_word", "need_one_of"]
def nF : Nat := 13
def S (K : PySem.W.Frag) : Sg := ⟨K, fun i => ga K (cln.getD i Str.empty), fun i => fnm.getD i Str.empty, nF, [((cT K df_law.at_).2, "law.<locals>.<lambda>")]⟩
theorem inj (K : PySem.W.Frag) : ∀ i j, i < (S K).nf → j < (S K).nf → (S K).fn i = (S K).fn j → i = j := inj_of fnm (by decide +kernel)
def tb0 : Kd → Option Bool
  | .non => some false
  | .bl => some false
  | .int => some false
  | .str => some false
  | .tup => some true
  | .lst => some true
  | .dic => some false
  | .own _ => none
theorem tb0_ok : ∀ t b, tb0 t = some b → tbB ["list", "tuple"] t = some b := fun t b h => by
  cases t <;> first | (cases h; decide +kernel) | cases h
def tb1 : Kd → Option Bool
  | .non => some false
  | .bl => some false
  | .int => some false
  | .str => some true
  | .tup => some false
  | .lst => some false
  | .dic => some false
  | .own _ => none
theorem tb1_ok : ∀ t b, tb1 t = some b → tbB ["str"] t = some b := fun t b h => by
  cases t <;> first | (cases h; decide +kernel) | cases h
def tb2 : Kd → Option Bool
  | .non => some false
  | .bl => some false
  | .int => some false
  | .str => some false
  | .tup => some true
  | .lst => some false
  | .dic => some false
  | .own _ => none
theorem tb2_ok : ∀ t b, tb2 t = some b → tbB ["tuple"] t = some b := fun t b h => by
  cases t <;> first | (cases h; decide +kernel) | cases h
def xc0 : Nat → Bool
  | 13 => true
  | 8 => true
  | _ => false
theorem xc_0 {α : Nat → Prop} (h0 : α 13) (h1 : α 8) : ∀ i, xc0 i = true → α i := fun i h => by
  unfold xc0 at h
  split at h
  · exact h0
  · exact h1
  · cases h
def tx0 : Kd → Option Bool
  | .own 13 => some true
  | .own 8 => some false
  | _ => none
theorem tx0_ok {K : PySem.W.Frag} {us : List Value} (h0 : PySem.W.kitAny K (.ref (ga K "BadText")) us = some true) (h1 : PySem.W.kitAny K (.ref (ga K "BadCourse")) us = some false) : ∀ t b, tx0 t = some b → PySem.W.kitAny (S K).K (kv (S K) t) us = some b := fun t b h => by
  unfold tx0 at h
  split at h
  · cases h; exact h0
  · cases h; exact h1
  · cases h
def tx1 : Kd → Option Bool
  | .own 13 => some false
  | .own 8 => some true
  | _ => none
theorem tx1_ok {K : PySem.W.Frag} {us : List Value} (h0 : PySem.W.kitAny K (.ref (ga K "BadText")) us = some false) (h1 : PySem.W.kitAny K (.ref (ga K "BadCourse")) us = some true) : ∀ t b, tx1 t = some b → PySem.W.kitAny (S K).K (kv (S K) t) us = some b := fun t b h => by
  unfold tx1 at h
  split at h
  · cases h; exact h0
  · cases h; exact h1
  · cases h
def ce : Nat → Bool
  | 8 => true
  | 13 => true
  | _ => false
def m__law_pen : Sm := sRet (eLst (esCons (eCall fList (esCons (eSl (eVar 0) oNone (oSome (eC (.int 63)))) (esNil))) (esCons (eC (.int 0)) (esCons (eC (.int 0)) (esNil)))))
def F__law_pen : Fn := fnM 1 m__law_pen
def m__law_draw : Sm := sSeq (sIf (tOf (eBin opGt (eBin opIx (eVar 0) (eC (.int 2))) (eC (.int 0)))) (sSeq (sSet 2 (eBin (intOp modG) (eCall fInt (esCons (eBin opIx (eVar 0) (eC (.int 2))) (esNil))) (eVar 1))) (sSeq (sAsg (eBin (intOp divG) (eCall fInt (esCons (eBin opIx (eVar 0) (eC (.int 2))) (esNil))) (eVar 1)) (gIx (eVar 0) (eC (.int 2)))) (sRet (eVar 2)))) (sNil)) (sSeq (sSet 3 (eBin opIx (eVar 0) (eC (.int 1)))) (sSeq (sAsg (eBin opAdd (eVar 3) (eC (.int 1))) (gIx (eVar 0) (eC (.int 1)))) (sSeq (sSet 4 (eBin opAdd (eBin opMul (eC (.int 141445)) (eVar 3)) (eC (.int 16349)))) (sSeq (sIf (tOf (eBin opNe (eBin opIx (eVar 0) (eC (.int 0))) (eLst (esNil)))) (sSet 4 (eBin opIx (eBin opIx (eVar 0) (eC (.int 0))) (eBin (intOp modG) (eCall fInt (esCons (eVar 3) (esNil))) (eCall fLen (esCons (eBin opIx (eVar 0) (eC (.int 0))) (esNil)))))) (sNil)) (sSeq (sIf (tAndM (tOf (eBin opLt (eVar 3) (eCall fLen (esCons (eBin opIx (eVar 0) (eC (.int 0))) (esNil))))) (tOf (eBin opGe (eCall fAbs (esCons (eVar 4) (esNil))) (eBin (intOp powG) (eC (.int 10)) (eC (.int 18)))))) (sSeq (sSet 5 (eBin opAdd (eBin opMul (eC (.int 2)) (eBin opSub (eCall fAbs (esCons (eVar 4) (esNil))) (eBin (intOp powG) (eC (.int 10)) (eC (.int 18))))) (eCall fInt (esCons (eBin opLt (eVar 4) (eC (.int 0))) (esNil))))) (sSeq (sAsg (eBin (intOp divG) (eCall fInt (esCons (eVar 5) (esNil))) (eVar 1)) (gIx (eVar 0) (eC (.int 2)))) (sRet (eBin (intOp modG) (eCall fInt (esCons (eVar 5) (esNil))) (eVar 1))))) (sNil)) (sSeq (sSet 6 (eBin (intOp modG) (eCall fInt (esCons (eBin (intOp powG) (eBin opAdd (eBin opAdd (eBin (intOp modG) (eCall fInt (esCons (eVar 4) (esNil))) (eC (.int 2147483563))) (eBin opMul (eC (.int 165503)) (eVar 3))) (eC (.int 16349))) (eC (.int 5))) (esNil))) (eC (.int 2147483647)))) (sSeq (sSet 6 (eBin (intOp modG) (eCall fInt (esCons (eBin (intOp powG) (eBin opAdd (eBin opAdd (eBin opMul (eVar 6) (eBin opAdd (eBin opMul (eC (.int 2)) (eVar 3)) (eC (.int 251)))) (eBin opMul (eBin opMul (eC (.int 165503)) (eVar 3)) (eVar 3))) (eC (.int 93))) (eC (.int 3))) (esNil))) (eC (.int 2147483587)))) (sRet (eBin (intOp modG) (eCall fInt (esCons (eBin (intOp divG) (eVar 6) (eC (.int 32))) (esNil))) (eVar 1))))))))))
def F__law_draw : Fn := fnM 7 m__law_draw
def m__law_pick : Sm := sRet (eBin opIx (eVar 1) (eFn F__law_draw 2 [] (esCons (eVar 0) (esCons (eCall fLen (esCons (eVar 1) (esNil))) (esNil)))))
def F__law_pick : Fn := fnM 2 m__law_pick
def m__law_course : Sm := sRet (eCall fTuple (esCons (eLC (srcRng1 (esCons (eFn F__law_draw 2 [] (esCons (eVar 0) (esCons (eBin opAdd (eVar 1) (eC (.int 1))) (esNil)))) (esNil))) (.one 2) (tYesM) (eFn F__law_pick 2 [] (esCons (eVar 0) (esCons (eLst (esCons (eC (.str [121, 101, 115])) (esCons (eC (.str [110, 111])) (esNil)))) (esNil)))) [2]) (esNil)))
def F__law_course : Fn := fnM 3 m__law_course
def m_is_listed : Sm := sRet (eIs noC noC tb0 (eVar 0))
def F_is_listed : Fn := fnM 1 m_is_listed
def m_is_course : Sm := sRet (eAndM (eFn F_is_listed 1 [] (esCons (eVar 0) (esNil))) (eCall (fAll false) (esCons (eLC (srcSeq (eVar 0)) (.one 1) (tYesM) (eAndM (eIs noC noC tb1 (eVar 1)) (eBin opIn (eVar 1) (eC (.tup [.str [121, 101, 115], .str [110, 111]])))) [1]) (esNil))))
def F_is_course : Fn := fnM 2 m_is_course
def m_course_text : Sm := sSeq (sIf (tNotM (tV (eFn F_is_course 1 [] (esCons (eVar 0) (esNil))))) (sRaise1 8 0 (esCons (eC (.str [99, 111, 117, 114, 115, 101])) (esNil))) (sNil)) (sRet (eJoin (eC (.str [32])) (eVar 0)))
def F_course_text : Fn := fnM 1 m_course_text
def m_Lines___init__ : Sm := sSeq (sFldM 3 [1] (eVar 0) (eVar 1)) (sSeq (sFldM 4 [1] (eVar 0) (eVar 2)) (sFldM 5 [1] (eVar 0) (eC (.int 0))))
def F_Lines___init__ : Fn := fnM 3 m_Lines___init__
def m_Line___init__ : Sm := sSeq (sFldM 6 [0] (eVar 0) (eVar 1)) (sSeq (sFldM 7 [0] (eVar 0) (eVar 2)) (sFldM 5 [0] (eVar 0) (eC (.int 0))))
def F_Line___init__ : Fn := fnM 3 m_Line___init__
def m_lines_of : Sm := sSeq (sIf (tNotM (tV (eIs noC noC tb1 (eVar 0)))) (sRaise2 13 1 2 (esCons (eC (.int 0)) (esCons (eC (.int 0)) (esNil)))) (sNil)) (sRet (eMake 1 F_Lines___init__ 3 [.int 0] (esCons (eLC (srcEnum (esCons (eSplit (eVar 0) (eC (.str [10]))) (esNil))) (.tup [1, 2]) (tYesM) (eMake 0 F_Line___init__ 3 [] (esCons (eVar 1) (esCons (eSplit (eVar 2) (eC (.str [32]))) (esNil)))) [1, 2]) (esNil))))
def F_lines_of : Fn := fnM 3 m_lines_of
def m_Lines_is_read : Sm := sRet (eBin opEq (eFld 5 [1] (eVar 0)) (eCall fLen (esCons (eFld 3 [1] (eVar 0)) (esNil))))
def F_Lines_is_read : Fn := fnM 1 m_Lines_is_read
def m_Lines_refuse : Sm := sRaise2 13 1 2 (esCons (eBin opAdd (eFld 4 [1] (eVar 0)) (eFld 5 [1] (eVar 0))) (esCons (eC (.int 0)) (esNil)))
def F_Lines_refuse : Fn := fnM 1 m_Lines_refuse
def m_Lines_take_line : Sm := sSeq (sIf (tV (eMeth 1 8 F_Lines_is_read 1 [] (eVar 0) (esNil))) (sExpr (eMeth 1 9 F_Lines_refuse 1 [] (eVar 0) (esNil))) (sNil)) (sSeq (sFldAugM 5 [1] (intOp fun i j => some (i + j)) (eVar 0) (eC (.int 1))) (sRet (eBin opIx (eFld 3 [1] (eVar 0)) (eBin opSub (eFld 5 [1] (eVar 0)) (eC (.int 1))))))
def F_Lines_take_line : Fn := fnM 1 m_Lines_take_line
def m_Line_is_read : Sm := sRet (eBin opEq (eFld 5 [0] (eVar 0)) (eCall fLen (esCons (eFld 7 [0] (eVar 0)) (esNil))))
def F_Line_is_read : Fn := fnM 1 m_Line_is_read
def m_Line_refuse : Sm := sRaise2 13 1 2 (esCons (eFld 6 [0] (eVar 0)) (esCons (eFld 5 [0] (eVar 0)) (esNil)))
def F_Line_refuse : Fn := fnM 1 m_Line_refuse
def m_Line_take_word : Sm := sSeq (sIf (tV (eMeth 0 8 F_Line_is_read 1 [] (eVar 0) (esNil))) (sExpr (eMeth 0 9 F_Line_refuse 1 [] (eVar 0) (esNil))) (sNil)) (sSeq (sFldAugM 5 [0] (intOp fun i j => some (i + j)) (eVar 0) (eC (.int 1))) (sRet (eBin opIx (eFld 7 [0] (eVar 0)) (eBin opSub (eFld 5 [0] (eVar 0)) (eC (.int 1))))))
def F_Line_take_word : Fn := fnM 1 m_Line_take_word
def m_Line_need_one_of : Sm := sSeq (sIf (tOrM (tV (eMeth 0 8 F_Line_is_read 1 [] (eVar 0) (esNil))) (tOf (eBin opNotIn (eBin opIx (eFld 7 [0] (eVar 0)) (eFld 5 [0] (eVar 0))) (eVar 1)))) (sExpr (eMeth 0 9 F_Line_refuse 1 [] (eVar 0) (esNil))) (sNil)) (sRet (eMeth 0 11 F_Line_take_word 1 [] (eVar 0) (esNil)))
def F_Line_need_one_of : Fn := fnM 2 m_Line_need_one_of
def m_read_course : Sm := sSeq (sIf (tOf (eBin opEq (eVar 0) (eC (.str [])))) (sRet (eTup (esNil))) (sNil)) (sSeq (sSet 1 (eFn F_lines_of 1 [] (esCons (eVar 0) (esNil)))) (sSeq (sSet2 2 3 (esCons (eMeth 1 10 F_Lines_take_line 1 [] (eVar 1) (esNil)) (esCons (eLst (esNil)) (esNil)))) (sSeq (sWhile 100000 (tNotM (tV (eMeth 0 8 F_Line_is_read 1 [] (eVar 2) (esNil)))) (sExpr (eAppend (eVar 3) (eMeth 0 12 F_Line_need_one_of 2 [] (eVar 2) (esCons (eC (.tup [.str [121, 101, 115], .str [110, 111]])) (esNil)))))) (sSeq (sIf (tNotM (tV (eMeth 1 8 F_Lines_is_read 1 [] (eVar 1) (esNil)))) (sRaise2 13 1 2 (esCons (eC (.int 1)) (esCons (eC (.int 0)) (esNil)))) (sNil)) (sRet (eCall fTuple (esCons (eVar 3) (esNil))))))))
def F_read_course : Fn := fnM 4 m_read_course
def m__law_bad : Sm := sSeq (sSet 1 (eIf (tOf (eBin opNe (eVar 0) (eC (.str [])))) (eSplit (eBin opIx (eSplit (eVar 0) (eC (.str [10]))) (eC (.int 0))) (eC (.str [32]))) (eLst (esNil)))) (sSeq (sFor (srcEnum (esCons (eVar 1) (esNil))) (gT 2 (gsCons (gN 2) (gsCons (gN 3) (gsNil)))) (sIf (tOf (eBin opNotIn (eVar 3) (eTup (esCons (eC (.str [121, 101, 115])) (esCons (eC (.str [110, 111])) (esNil)))))) (sRet (eTup (esCons (eC (.str [116, 101, 120, 116])) (esCons (eC (.int 0)) (esCons (eVar 2) (esNil)))))) (sNil))) (sRet (eIf (tOf (eBin opIn (eC (.str [10])) (eVar 0))) (eTup (esCons (eC (.str [116, 101, 120, 116])) (esCons (eC (.int 1)) (esCons (eC (.int 0)) (esNil))))) (eC .non))))
def F__law_bad : Fn := fnM 4 m__law_bad
def m_rest__law_heard : Sm := sSeq (sIf (tOf (eIsN (eVar 2))) (sRet (eLst (esCons (eVar 1) (esNil)))) (sNil)) (sSeq (sIf (tV (eIs noC xc0 tx0 (eVar 2))) (sRet (eTup (esCons (eC (.str [116, 101, 120, 116])) (esCons (eXf 1 xc0 (eVar 2)) (esCons (eXf 2 xc0 (eVar 2)) (esNil)))))) (sNil)) (sSeq (sIf (tV (eIs noC xc0 tx1 (eVar 2))) (sRet (eTup (esCons (eC (.str [112, 97, 114, 116])) (esCons (eXf 0 xc0 (eVar 2)) (esNil))))) (sNil)) (sBad)))
def m_law : Sm := sSeq (sSet 1 (eFn F__law_pen 1 [] (esCons (eVar 0) (esNil)))) (sSeq (sFor (srcRng1 (esCons (eC (.int 8)) (esNil))) (gN 2) (sSeq (sSet 3 (eBin opMul (eFn F__law_course 2 [] (esCons (eVar 1) (esCons (eC (.int 9)) (esNil)))) (eFn F__law_pick 2 [] (esCons (eVar 1) (esCons (eLst (esCons (eC (.int 1)) (esCons (eC (.int 1)) (esCons (eC (.int 500)) (esNil))))) (esNil)))))) (sSeq (sSet 4 (eJoin (eC (.str [32])) (eVar 3))) (sSeq (sIf (tOrM (tOf (eBin opNe (eLst (esCons (eFn F_course_text 1 [] (esCons (eCall fList (esCons (eVar 3) (esNil))) (esNil))) (esCons (eFn F_course_text 1 [] (esCons (eVar 3) (esNil))) (esNil)))) (eBin opMul (eLst (esCons (eVar 4) (esNil))) (eC (.int 2))))) (tOrM (tOf (eBin opNe (eFn F_read_course 1 [] (esCons (eVar 4) (esNil))) (eVar 3))) (tOrM (tOf (eBin opNe (eFn F_read_course 1 [] (esCons (eVar 4) (esNil))) (eVar 3))) (tNotM (tV (eIs noC noC tb2 (eFn F_read_course 1 [] (esCons (eVar 4) (esNil))))))))) (sRet (eC (.bl false))) (sNil)) (sSeq (sSet 5 (eSplit (eVar 4) (eC (.str [32])))) (sSeq (sSet 6 (eFn F__law_draw 2 [] (esCons (eVar 1) (esCons (eCall fLen (esCons (eVar 5) (esNil))) (esNil))))) (sSeq (sSet 7 (eFn F__law_pick 2 [] (esCons (eVar 1) (esCons (eLst (esCons (eC (.str [])) (esCons (eC (.str [89, 101, 115])) (esCons (eC (.str [121])) (esCons (eC (.str [110, 111, 110, 101])) (esCons (eC (.str [49])) (esCons (eC (.str [121, 101, 115])) (esCons (eC (.str [110, 111])) (esCons (eC (.str [121, 101, 115, 10, 110, 111])) (esCons (eC (.str [32, 121, 101, 115])) (esCons (eC (.str [110, 111, 32])) (esNil)))))))))))) (esNil))))) (sSeq (sFor (srcTup (eTup (esCons (eJoin (eC (.str [32])) (eBin opAdd (eBin opAdd (eSl (eVar 5) oNone (oSome (eVar 6))) (eLst (esCons (eVar 7) (esNil)))) (eSl (eVar 5) (oSome (eVar 6)) oNone))) (esCons (eJoin (eC (.str [32])) (eBin opAdd (eBin opAdd (eSl (eVar 5) oNone (oSome (eVar 6))) (eLst (esCons (eVar 7) (esNil)))) (eSl (eVar 5) (oSome (eBin opAdd (eVar 6) (eC (.int 1)))) oNone))) (esCons (eBin opAdd (eVar 4) (eC (.str [10]))) (esCons (eBin opAdd (eC (.str [10])) (eVar 4)) (esCons (eBin opAdd (eC (.str [32])) (eVar 4)) (esNil)))))))) (gN 8) (sSeq (sSet 9 (eFn F__law_bad 1 [] (esCons (eVar 8) (esNil)))) (sIf (tOf (eBin opNe (eHeard ce (m_rest__law_heard) (eFn F_read_course 1 [] (esCons (eVar 8) (esNil)))) (eIf (tOf (eNotN (eVar 9))) (eVar 9) (eLst (esCons (eIf (tOf (eBin opNe (eVar 8) (eC (.str [])))) (eCall fTuple (esCons (eSplit (eVar 8) (eC (.str [32]))) (esNil))) (eTup (esNil))) (esNil)))))) (sRet (eC (.bl false))) (sNil)))) (sSeq (sSet 10 (eFn F__law_pick 2 [] (esCons (eVar 1) (esCons (eLst (esCons (eC .non) (esCons (eC (.int 5)) (esCons (eC (.str [121, 101, 115])) (esCons (eLst (esCons (eC (.str [121, 101, 115])) (esCons (eC .non) (esNil)))) (esCons (eTup (esCons (eC (.str [89, 101, 115])) (esNil))) (esCons (eDic1 [121, 101, 115] (eC (.int 1))) (esCons (eLst (esCons (eC (.bl true)) (esNil))) (esCons (eLst (esCons (eC (.str [121, 101, 115])) (esCons (eLst (esCons (eC (.str [110, 111])) (esNil))) (esNil)))) (esNil)))))))))) (esNil))))) (sSeq (sSet 11 (eFn F__law_pick 2 [] (esCons (eVar 1) (esCons (eLst (esCons (eC .non) (esCons (eC (.int 5)) (esCons (eTup (esCons (eC (.str [121, 101, 115])) (esNil))) (esCons (eC (.bl true)) (esNil)))))) (esNil))))) (sIf (tOf (eBin opNe (eLst (esCons (eHeard ce (m_rest__law_heard) (eFn F_course_text 1 [] (esCons (eVar 10) (esNil)))) (esCons (eHeard ce (m_rest__law_heard) (eFn F_read_course 1 [] (esCons (eVar 11) (esNil)))) (esNil)))) (eLst (esCons (eTup (esCons (eC (.str [112, 97, 114, 116])) (esCons (eC (.str [99, 111, 117, 114, 115, 101])) (esNil)))) (esCons (eTup (esCons (eC (.str [116, 101, 120, 116])) (esCons (eC (.int 0)) (esCons (eC (.int 0)) (esNil))))) (esNil)))))) (sRet (eC (.bl false))) (sNil)))))))))))) (sRet (eAndM (eBin opEq (eFn F_course_text 1 [] (esCons (eLst (esNil)) (esNil))) (eC (.str []))) (eBin opEq (eFn F_read_course 1 [] (esCons (eC (.str [])) (esNil))) (eTup (esNil))))))
def F_law : Fn := fnM 12 m_law
section
variable {w : World} {K : PySem.W.Frag} {mg : Str → Option Value} {h base : Heap}
abbrev C (w : World) (K : PySem.W.Frag) (mg : Str → Option Value) (h : Heap) := Pk fa fn tf xs ex file w K mg h
theorem ce_ok (c : C w K mg h) : ∀ i, ce i = true → PySem.W.exmOne (S K).K (.ref ((S K).ca i)) (.ref (ga K "CodeError")) = some true := fun i h => by
  unfold ce at h
  split at h
  · exact (c.exm 58)
  · exact (c.exm 59)
  · cases h
theorem xt_BadCourse (c : C w K mg h) : MX.ExT K P (ga K "BadCourse") (Hz.ini K "BadCourse") xd_BadCourse.fs xd_BadCourse.qual xd_BadCourse.pa xd_BadCourse.bd xd_BadCourse.sc := Hz.xB_ok (c.says.exc xd_BadCourse (by simp [xs])).1 (c.says.exc xd_BadCourse (by simp [xs])).2 rfl (by decide +kernel)
theorem xt_BadText (c : C w K mg h) : MX.ExT K P (ga K "BadText") (Hz.ini K "BadText") xd_BadText.fs xd_BadText.qual xd_BadText.pa xd_BadText.bd xd_BadText.sc := Hz.xB_ok (c.says.exc xd_BadText (by simp [xs])).1 (c.says.exc xd_BadText (by simp [xs])).2 rfl (by decide +kernel)
theorem hu_law (K : PySem.W.Frag) : ∀ p ∈ (S K).T, p.1 = (cT K df_law.at_).2 → p.2 = ("law.<locals>." : Str) ++ "<lambda>" := fun p hp _ => by
  cases hp with
  | head => rfl
  | tail _ hp => cases hp
abbrev N__law_pen : List Str := ["script"]
theorem sc__law_pen : FnScope ["script"] ["script"] (defScope sf__law_pen) := ⟨rfl, rfl, rfl, by decide +kernel, rfl, by decide +kernel, by decide +kernel⟩
theorem ok__law_pen (c : C w K mg h) {fd : FuncData} (D : FunD K df__law_pen.name df__law_pen.qual df__law_pen.params df__law_pen.body df__law_pen.scope (df__law_pen.dvs K) (df__law_pen.kws K) (fAd K df__law_pen.at_) fd) : FnOk P w K mg base (L2.CX P w) 1 (fAd K df__law_pen.at_) fd ["script"] (spF (S K) F__law_pen 1) := by
  exact fn_ok (S := S K) D sc__law_pen (inj K) fun cdv A outer s H E _i _j => (mss_one (ms_ret (me_lst (ma_cons (me_callTy cr_list cm_list rfl (c.free 31) (by decide +kernel) (ma_cons (me_slice (me_var 0) mo_none (mo_some me_int)) ma_nil)) (ma_cons me_int (ma_cons me_int ma_nil))))))
abbrev N__law_draw : List Str := ["pen", "many", "digit", "at", "cell", "great", "mixed"]
theorem sc__law_draw : FnScope ["pen", "many", "digit", "at", "cell", "great", "mixed"] ["pen", "many"] (defScope sf__law_draw) := ⟨rfl, rfl, rfl, by decide +kernel, rfl, by decide +kernel, by decide +kernel⟩
theorem ok__law_draw (c : C w K mg h) {fd : FuncData} (D : FunD K df__law_draw.name df__law_draw.qual df__law_draw.params df__law_draw.body df__law_draw.scope (df__law_draw.dvs K) (df__law_draw.kws K) (fAd K df__law_draw.at_) fd) : FnOk P w K mg base (L2.CX P w) 1 (fAd K df__law_draw.at_) fd ["pen", "many"] (spF (S K) F__law_draw 2) := by
  exact fn_ok (S := S K) D sc__law_draw (inj K) fun cdv A outer s H E _i _j => (mss_cons (ms_if (mt_cmp or_gt om_gt (me_ix (me_var 0) me_int) me_int) (mss_cons (ms_set 2 sc__law_draw.nd (me_bin op_mod om_mod (me_callTy cr_int cm_int rfl (c.free 33) (by decide +kernel) (ma_cons (me_ix (me_var 0) me_int) ma_nil)) (me_var 1))) (mss_cons (ms_asg (me_bin op_fdiv om_div (me_callTy cr_int cm_int rfl (c.free 33) (by decide +kernel) (ma_cons (me_ix (me_var 0) me_int) ma_nil)) (me_var 1)) (mg_ix (me_var 0) me_int) rfl rfl rfl goes_ix) (mss_one (ms_ret (me_var 2))))) mss_nil) (mss_cons (ms_set 3 sc__law_draw.nd (me_ix (me_var 0) me_int)) (mss_cons (ms_asg (me_bin or_add om_add (me_var 3) me_int) (mg_ix (me_var 0) me_int) rfl rfl rfl goes_ix) (mss_cons (ms_set 4 sc__law_draw.nd (me_bin or_add om_add (me_bin or_mul om_mul me_int (me_var 3)) me_int)) (mss_cons (ms_if (mt_cmp or_ne om_ne (me_ix (me_var 0) me_int) (me_lst ma_nil)) (mss_one (ms_set 4 sc__law_draw.nd (me_ix (me_ix (me_var 0) me_int) (me_bin op_mod om_mod (me_callTy cr_int cm_int rfl (c.free 33) (by decide +kernel) (ma_cons (me_var 3) ma_nil)) (me_callB cr_len cm_len rfl (c.free 34) (by decide +kernel) (ma_cons (me_ix (me_var 0) me_int) ma_nil)))))) mss_nil) (mss_cons (ms_if (mt_bool (mw_and (mt_cmp or_lt om_lt (me_var 3) (me_callB cr_len cm_len rfl (c.free 34) (by decide +kernel) (ma_cons (me_ix (me_var 0) me_int) ma_nil))) (pw_and1 (mt_cmp or_ge om_ge (me_callB cr_abs cm_abs rfl (c.free 35) (by decide +kernel) (ma_cons (me_var 4) ma_nil)) (me_bin op_pow om_pow me_int me_int))))) (mss_cons (ms_set 5 sc__law_draw.nd (me_bin or_add om_add (me_bin or_mul om_mul me_int (me_bin op_sub om_sub (me_callB cr_abs cm_abs rfl (c.free 35) (by decide +kernel) (ma_cons (me_var 4) ma_nil)) (me_bin op_pow om_pow me_int me_int))) (me_callTy cr_int cm_int rfl (c.free 33) (by decide +kernel) (ma_cons (me_cmp or_lt om_lt (me_var 4) me_int) ma_nil)))) (mss_cons (ms_asg (me_bin op_fdiv om_div (me_callTy cr_int cm_int rfl (c.free 33) (by decide +kernel) (ma_cons (me_var 5) ma_nil)) (me_var 1)) (mg_ix (me_var 0) me_int) rfl rfl rfl goes_ix) (mss_one (ms_ret (me_bin op_mod om_mod (me_callTy cr_int cm_int rfl (c.free 33) (by decide +kernel) (ma_cons (me_var 5) ma_nil)) (me_var 1)))))) mss_nil) (mss_cons (ms_set 6 sc__law_draw.nd (me_bin op_mod om_mod (me_callTy cr_int cm_int rfl (c.free 33) (by decide +kernel) (ma_cons (me_bin op_pow om_pow (me_bin or_add om_add (me_bin or_add om_add (me_bin op_mod om_mod (me_callTy cr_int cm_int rfl (c.free 33) (by decide +kernel) (ma_cons (me_var 4) ma_nil)) me_int) (me_bin or_mul om_mul me_int (me_var 3))) me_int) me_int) ma_nil)) me_int)) (mss_cons (ms_set 6 sc__law_draw.nd (me_bin op_mod om_mod (me_callTy cr_int cm_int rfl (c.free 33) (by decide +kernel) (ma_cons (me_bin op_pow om_pow (me_bin or_add om_add (me_bin or_add om_add (me_bin or_mul om_mul (me_var 6) (me_bin or_add om_add (me_bin or_mul om_mul me_int (me_var 3)) me_int)) (me_bin or_mul om_mul (me_bin or_mul om_mul me_int (me_var 3)) (me_var 3))) me_int) me_int) ma_nil)) me_int)) (mss_one (ms_ret (me_bin op_mod om_mod (me_callTy cr_int cm_int rfl (c.free 33) (by decide +kernel) (ma_cons (me_bin op_fdiv om_div (me_var 6) me_int) ma_nil)) (me_var 1))))))))))))
abbrev N__law_pick : List Str := ["pen", "some"]
theorem sc__law_pick : FnScope ["pen", "some"] ["pen", "some"] (defScope sf__law_pick) := ⟨rfl, rfl, rfl, by decide +kernel, rfl, by decide +kernel, by decide +kernel⟩
theorem ok__law_pick (c : C w K mg h) {fd : FuncData} (D : FunD K df__law_pick.name df__law_pick.qual df__law_pick.params df__law_pick.body df__law_pick.scope (df__law_pick.dvs K) (df__law_pick.kws K) (fAd K df__law_pick.at_) fd) : FnOk P w K mg base (L2.CX P w) 2 (fAd K df__law_pick.at_) fd ["pen", "some"] (spF (S K) F__law_pick 2) := by
  obtain ⟨fd__law_draw, D__law_draw⟩ := c.says.d.def_ 1 (d := df__law_draw) rfl
  have O__law_draw := ok__law_draw (base := base) c D__law_draw
  have B__law_draw : Binds K fd__law_draw ["pen", "many"] [] := D__law_draw.bindsN fun _ _ _ _ _ _ us hl => match us, hl with | [_, _], _ => rfl
  exact fn_ok (S := S K) D sc__law_pick (inj K) fun cdv A outer s H E _i _j => (mss_one (ms_ret (me_ix (me_var 1) (me_call O__law_draw rfl (c.glo 25) D__law_draw.kp B__law_draw .nil rfl (ma_cons (me_var 0) (ma_cons (me_callB cr_len cm_len rfl (c.free 34) (by decide +kernel) (ma_cons (me_var 1) ma_nil)) ma_nil))))))
abbrev N__law_course : List Str := ["pen", "most", "at"]
theorem sc__law_course : FnScope ["pen", "most", "at"] ["pen", "most"] (defScope sf__law_course) := ⟨rfl, rfl, rfl, by decide +kernel, rfl, by decide +kernel, by decide +kernel⟩
theorem ok__law_course (c : C w K mg h) {fd : FuncData} (D : FunD K df__law_course.name df__law_course.qual df__law_course.params df__law_course.body df__law_course.scope (df__law_course.dvs K) (df__law_course.kws K) (fAd K df__law_course.at_) fd) : FnOk P w K mg base (L2.CX P w) 3 (fAd K df__law_course.at_) fd ["pen", "most"] (spF (S K) F__law_course 2) := by
  obtain ⟨fd__law_draw, D__law_draw⟩ := c.says.d.def_ 1 (d := df__law_draw) rfl
  have O__law_draw := ok__law_draw (base := base) c D__law_draw
  have B__law_draw : Binds K fd__law_draw ["pen", "many"] [] := D__law_draw.bindsN fun _ _ _ _ _ _ us hl => match us, hl with | [_, _], _ => rfl
  obtain ⟨fd__law_pick, D__law_pick⟩ := c.says.d.def_ 2 (d := df__law_pick) rfl
  have O__law_pick := ok__law_pick (base := base) c D__law_pick
  have B__law_pick : Binds K fd__law_pick ["pen", "some"] [] := D__law_pick.bindsN fun _ _ _ _ _ _ us hl => match us, hl with | [_, _], _ => rfl
  exact fn_ok (S := S K) D sc__law_course (inj K) fun cdv A outer s H E _i _j => (mss_one (ms_ret (me_callTy cr_tuple cm_tuple rfl (c.free 36) (by decide +kernel) (ma_cons (me_lc (own := [("at", 2)]) (tg := (.one 2)) sc__law_course.nd (mi_rng1 rfl (c.free 32) (ma_cons (me_call O__law_draw rfl (c.glo 25) D__law_draw.kp B__law_draw .nil rfl (ma_cons (me_var 0) (ma_cons (me_bin or_add om_add (me_var 1) me_int) ma_nil))) ma_nil)) (blkOk_by (N := N__law_course) (sc := defScope sf__law_course) (by decide +kernel)) (fun _ _ _ _ _ => pg_name (i := 2) sc__law_course.nd rfl (Or.inl rfl)) (fun _ _ _ _ _ => me_yes) (fun _ _ _ _ _ => (me_call O__law_pick rfl (c.glo 26) D__law_pick.kp B__law_pick .nil rfl (ma_cons (me_var 0) (ma_cons (me_lst (ma_cons (me_str [121, 101, 115]) (ma_cons (me_str [110, 111]) ma_nil))) ma_nil))))) ma_nil))))
abbrev N_is_listed : List Str := ["value"]
theorem sc_is_listed : FnScope ["value"] ["value"] (defScope sf_is_listed) := ⟨rfl, rfl, rfl, by decide +kernel, rfl, by decide +kernel, by decide +kernel⟩
theorem ok_is_listed (c : C w K mg h) {fd : FuncData} (D : FunD K df_is_listed.name df_is_listed.qual df_is_listed.params df_is_listed.body df_is_listed.scope (df_is_listed.dvs K) (df_is_listed.kws K) (fAd K df_is_listed.at_) fd) : FnOk P w K mg base (L2.CX P w) 1 (fAd K df_is_listed.at_) fd ["value"] (spF (S K) F_is_listed 1) := by
  exact fn_ok (S := S K) D sc_is_listed (inj K) fun cdv A outer s H E _i _j => (mss_one (ms_ret (me_isT (.cons (.ty "list") (.cons (.ty "tuple") Paired.nil)) (tbB_any (l := ["list", "tuple"]) tb0_ok) noC_any noC_any (me_var 0) (Mi.pk_cons (pk_ty (T := "list") rfl (c.free 31) (by decide +kernel)) (Mi.pk_cons (pk_ty (T := "tuple") rfl (c.free 36) (by decide +kernel)) Mi.pk_nil)) rfl (c.free 37))))
abbrev N_is_course : List Str := ["value", "one"]
theorem sc_is_course : FnScope ["value", "one"] ["value"] (defScope sf_is_course) := ⟨rfl, rfl, rfl, by decide +kernel, rfl, by decide +kernel, by decide +kernel⟩
theorem ok_is_course (c : C w K mg h) {fd : FuncData} (D : FunD K df_is_course.name df_is_course.qual df_is_course.params df_is_course.body df_is_course.scope (df_is_course.dvs K) (df_is_course.kws K) (fAd K df_is_course.at_) fd) : FnOk P w K mg base (L2.CX P w) 2 (fAd K df_is_course.at_) fd ["value"] (spF (S K) F_is_course 1) := by
  obtain ⟨fd_is_listed, D_is_listed⟩ := c.says.d.def_ 4 (d := df_is_listed) rfl
  have O_is_listed := ok_is_listed (base := base) c D_is_listed
  have B_is_listed : Binds K fd_is_listed ["value"] [] := D_is_listed.bindsN fun _ _ _ _ _ _ us hl => match us, hl with | [_], _ => rfl
  exact fn_ok (S := S K) D sc_is_course (inj K) fun cdv A outer s H E _i _j => (mss_one (ms_ret (me_and (me_call O_is_listed rfl (c.glo 17) D_is_listed.kp B_is_listed .nil rfl (ma_cons (me_var 0) ma_nil)) (me_one (me_callB cr_allM (cm_aa false) rfl (c.free 39) (by decide +kernel) (ma_cons (me_lc (own := [("one", 1)]) (tg := (.one 1)) sc_is_course.nd (mi_seq (me_var 0)) (blkOk_by (N := N_is_course) (sc := defScope sf_is_course) (by decide +kernel)) (fun _ _ _ _ _ => pg_name (i := 1) sc_is_course.nd rfl (Or.inl rfl)) (fun _ _ _ _ _ => me_yes) (fun _ _ _ _ _ => (me_and (me_is (.ty "str") (tbB_one tb1_ok) noC_any noC_any (me_var 1) (pk_ty (T := "str") rfl (c.free 38) (by decide +kernel)) rfl (c.free 37)) (me_one (me_cmp or_in (om_in false) (me_var 1) (me_gtup (vs := [.str ⟨#[121, 101, 115]⟩, .str ⟨#[110, 111]⟩]) [.str [121, 101, 115], .str [110, 111]] rfl (c.glo 16) (tupB_ok (ex_at c.says.more 0 rfl)))))))) ma_nil))))))
abbrev N_course_text : List Str := ["course"]
theorem sc_course_text : FnScope ["course"] ["course"] (defScope sf_course_text) := ⟨rfl, rfl, rfl, by decide +kernel, rfl, by decide +kernel, by decide +kernel⟩
theorem ok_course_text (c : C w K mg h) {fd : FuncData} (D : FunD K df_course_text.name df_course_text.qual df_course_text.params df_course_text.body df_course_text.scope (df_course_text.dvs K) (df_course_text.kws K) (fAd K df_course_text.at_) fd) : FnOk P w K mg base (L2.CX P w) 3 (fAd K df_course_text.at_) fd ["course"] (spF (S K) F_course_text 1) := by
  obtain ⟨fd_is_course, D_is_course⟩ := c.says.d.def_ 5 (d := df_is_course) rfl
  have O_is_course := ok_is_course (base := base) c D_is_course
  have B_is_course : Binds K fd_is_course ["value"] [] := D_is_course.bindsN fun _ _ _ _ _ _ us hl => match us, hl with | [_], _ => rfl
  exact fn_ok (S := S K) D sc_course_text (inj K) fun cdv A outer s H E _i _j => (mss_cons (ms_if (mt_not (mt_val (me_call O_is_course rfl (c.glo 18) D_is_course.kp B_is_course .nil rfl (ma_cons (me_var 0) ma_nil)))) (mss_one (ms_raise1 (S := S K) (cid := 8) (fid := 0) (xt_BadCourse c) tx_BadCourse rfl (c.glo 7) (ma_cons (me_str [99, 111, 117, 114, 115, 101]) ma_nil) rfl (show 0 < nF from by decide))) mss_nil) (mss_one (ms_ret (me_join (me_str [32]) (me_var 0)))))
abbrev N_Lines___init__ : List Str := ["self", "line_list", "ahead"]
theorem sc_Lines___init__ : FnScope ["self", "line_list", "ahead"] ["self", "line_list", "ahead"] (defScope sf_Lines___init__) := ⟨rfl, rfl, rfl, by decide +kernel, rfl, by decide +kernel, by decide +kernel⟩
theorem ok_Lines___init__ (c : C w K mg h) {fd : FuncData} (D : FunD K df_Lines___init__.name df_Lines___init__.qual df_Lines___init__.params df_Lines___init__.body df_Lines___init__.scope (df_Lines___init__.dvs K) (df_Lines___init__.kws K) (fAd K df_Lines___init__.at_) fd) : FnOk P w K mg base (L2.CX P w) 1 (fAd K df_Lines___init__.at_) fd ["self", "line_list", "ahead"] (spF (S K) F_Lines___init__ 3) := by
  exact fn_ok (S := S K) D sc_Lines___init__ (inj K) fun cdv A outer s H E _i _j => (mss_cons (ms_fld (fld1 (S := S K) (f := 3) (c := 1) (show 3 < nF from by decide) (c.cls 40) (c.noat 41)) (me_var 0) (me_var 1)) (mss_cons (ms_fld (fld1 (S := S K) (f := 4) (c := 1) (show 4 < nF from by decide) (c.cls 40) (c.noat 42)) (me_var 0) (me_var 2)) (mss_one (ms_fld (fld1 (S := S K) (f := 5) (c := 1) (show 5 < nF from by decide) (c.cls 40) (c.noat 43)) (me_var 0) me_int))))
abbrev N_Line___init__ : List Str := ["self", "line_at", "word_list"]
theorem sc_Line___init__ : FnScope ["self", "line_at", "word_list"] ["self", "line_at", "word_list"] (defScope sf_Line___init__) := ⟨rfl, rfl, rfl, by decide +kernel, rfl, by decide +kernel, by decide +kernel⟩
theorem ok_Line___init__ (c : C w K mg h) {fd : FuncData} (D : FunD K df_Line___init__.name df_Line___init__.qual df_Line___init__.params df_Line___init__.body df_Line___init__.scope (df_Line___init__.dvs K) (df_Line___init__.kws K) (fAd K df_Line___init__.at_) fd) : FnOk P w K mg base (L2.CX P w) 1 (fAd K df_Line___init__.at_) fd ["self", "line_at", "word_list"] (spF (S K) F_Line___init__ 3) := by
  exact fn_ok (S := S K) D sc_Line___init__ (inj K) fun cdv A outer s H E _i _j => (mss_cons (ms_fld (fld1 (S := S K) (f := 6) (c := 0) (show 6 < nF from by decide) (c.cls 45) (c.noat 46)) (me_var 0) (me_var 1)) (mss_cons (ms_fld (fld1 (S := S K) (f := 7) (c := 0) (show 7 < nF from by decide) (c.cls 45) (c.noat 47)) (me_var 0) (me_var 2)) (mss_one (ms_fld (fld1 (S := S K) (f := 5) (c := 0) (show 5 < nF from by decide) (c.cls 45) (c.noat 48)) (me_var 0) me_int))))
abbrev N_lines_of : List Str := ["text", "at", "line"]
theorem sc_lines_of : FnScope ["text", "at", "line"] ["text"] (defScope sf_lines_of) := ⟨rfl, rfl, rfl, by decide +kernel, rfl, by decide +kernel, by decide +kernel⟩
theorem ok_lines_of (c : C w K mg h) {fd : FuncData} (D : FunD K df_lines_of.name df_lines_of.qual df_lines_of.params df_lines_of.body df_lines_of.scope (df_lines_of.dvs K) (df_lines_of.kws K) (fAd K df_lines_of.at_) fd) : FnOk P w K mg base (L2.CX P w) 3 (fAd K df_lines_of.at_) fd ["text"] (spF (S K) F_lines_of 1) := by
  obtain ⟨fd_Lines___init__, D_Lines___init__⟩ := c.says.d.def_ 7 (d := df_Lines___init__) rfl
  have O_Lines___init__ := ok_Lines___init__ (base := base) c D_Lines___init__
  obtain ⟨ds_Lines___init__, V_Lines___init__, B_Lines___init__⟩ := D_Lines___init__.binds1 (ps := ["self", "line_list", "ahead"]) 2 0 (by exact List.cons_ne_nil _ _) rfl fun T kV doc pm an cdv ct us its hl hi => match us, its, hl, hi with | [_, _], [_], _, _ => ⟨_, rfl, rfl⟩
  obtain ⟨fd_Line___init__, D_Line___init__⟩ := c.says.d.def_ 8 (d := df_Line___init__) rfl
  have O_Line___init__ := ok_Line___init__ (base := base) c D_Line___init__
  have B_Line___init__ : Binds K fd_Line___init__ ["self", "line_at", "word_list"] [] := D_Line___init__.bindsN fun _ _ _ _ _ _ us hl => match us, hl with | [_, _, _], _ => rfl
  exact fn_ok (S := S K) D sc_lines_of (inj K) fun cdv A outer s H E _i _j => (mss_cons (ms_if (mt_not (mt_val (me_is (.ty "str") (tbB_one tb1_ok) noC_any noC_any (me_var 0) (pk_ty (T := "str") rfl (c.free 38) (by decide +kernel)) rfl (c.free 37)))) (mss_one (ms_raise2 (S := S K) (cid := 13) (fid := 1) (gid := 2) (xt_BadText c) tx_BadText rfl (c.glo 12) (ma_cons me_int (ma_cons me_int ma_nil)) rfl rfl (show 1 < nF from by decide) (show 2 < nF from by decide))) mss_nil) (mss_one (ms_ret (me_make (S := S K) (cid := 1) (dvs := [.int 0]) (c.mkr 50) O_Lines___init__ rfl (c.glo 20) B_Lines___init__ V_Lines___init__ rfl (ma_cons (me_lc (own := [("at", 1), ("line", 2)]) (tg := (.tup [1, 2])) sc_lines_of.nd (mi_enum rfl (c.free 44) (ma_cons (me_split (me_var 0) (me_str [10])) ma_nil)) (blkOk_by (N := N_lines_of) (sc := defScope sf_lines_of) (by decide +kernel)) (fun _ _ _ _ _ => pg_tup rfl (pgs_cons (pg_name (i := 1) sc_lines_of.nd rfl (Or.inl rfl)) (pgs_cons (pg_name (i := 2) sc_lines_of.nd rfl (Or.inl rfl)) pgs_nil rfl) rfl) rfl rfl) (fun _ _ _ _ _ => me_yes) (fun _ _ _ _ _ => (me_make (S := S K) (cid := 0) (dvs := []) (c.mkr 49) O_Line___init__ rfl (c.glo 19) B_Line___init__ .nil rfl (ma_cons (me_var 1) (ma_cons (me_split (me_var 2) (me_str [32])) ma_nil))))) ma_nil)))))
abbrev N_Lines_is_read : List Str := ["self"]
theorem sc_Lines_is_read : FnScope ["self"] ["self"] (defScope sf_Lines_is_read) := ⟨rfl, rfl, rfl, by decide +kernel, rfl, by decide +kernel, by decide +kernel⟩
theorem ok_Lines_is_read (c : C w K mg h) {fd : FuncData} (D : FunD K df_Lines_is_read.name df_Lines_is_read.qual df_Lines_is_read.params df_Lines_is_read.body df_Lines_is_read.scope (df_Lines_is_read.dvs K) (df_Lines_is_read.kws K) (fAd K df_Lines_is_read.at_) fd) : FnOk P w K mg base (L2.CX P w) 1 (fAd K df_Lines_is_read.at_) fd ["self"] (spF (S K) F_Lines_is_read 1) := by
  exact fn_ok (S := S K) D sc_Lines_is_read (inj K) fun cdv A outer s H E _i _j => (mss_one (ms_ret (me_cmp or_eq om_eq (me_fld (fld1 (S := S K) (f := 5) (c := 1) (show 5 < nF from by decide) (c.cls 40) (c.noat 43)) (me_var 0)) (me_callB cr_len cm_len rfl (c.free 34) (by decide +kernel) (ma_cons (me_fld (fld1 (S := S K) (f := 3) (c := 1) (show 3 < nF from by decide) (c.cls 40) (c.noat 41)) (me_var 0)) ma_nil)))))
abbrev N_Lines_refuse : List Str := ["self"]
theorem sc_Lines_refuse : FnScope ["self"] ["self"] (defScope sf_Lines_refuse) := ⟨rfl, rfl, rfl, by decide +kernel, rfl, by decide +kernel, by decide +kernel⟩
theorem ok_Lines_refuse (c : C w K mg h) {fd : FuncData} (D : FunD K df_Lines_refuse.name df_Lines_refuse.qual df_Lines_refuse.params df_Lines_refuse.body df_Lines_refuse.scope (df_Lines_refuse.dvs K) (df_Lines_refuse.kws K) (fAd K df_Lines_refuse.at_) fd) : FnOk P w K mg base (L2.CX P w) 2 (fAd K df_Lines_refuse.at_) fd ["self"] (spF (S K) F_Lines_refuse 1) := by
  exact fn_ok (S := S K) D sc_Lines_refuse (inj K) fun cdv A outer s H E _i _j => (mss_one (ms_raise2 (S := S K) (cid := 13) (fid := 1) (gid := 2) (xt_BadText c) tx_BadText rfl (c.glo 12) (ma_cons (me_bin or_add om_add (me_fld (fld1 (S := S K) (f := 4) (c := 1) (show 4 < nF from by decide) (c.cls 40) (c.noat 42)) (me_var 0)) (me_fld (fld1 (S := S K) (f := 5) (c := 1) (show 5 < nF from by decide) (c.cls 40) (c.noat 43)) (me_var 0))) (ma_cons me_int ma_nil)) rfl rfl (show 1 < nF from by decide) (show 2 < nF from by decide)))
abbrev N_Lines_take_line : List Str := ["self"]
theorem sc_Lines_take_line : FnScope ["self"] ["self"] (defScope sf_Lines_take_line) := ⟨rfl, rfl, rfl, by decide +kernel, rfl, by decide +kernel, by decide +kernel⟩
theorem ok_Lines_take_line (c : C w K mg h) {fd : FuncData} (D : FunD K df_Lines_take_line.name df_Lines_take_line.qual df_Lines_take_line.params df_Lines_take_line.body df_Lines_take_line.scope (df_Lines_take_line.dvs K) (df_Lines_take_line.kws K) (fAd K df_Lines_take_line.at_) fd) : FnOk P w K mg base (L2.CX P w) 3 (fAd K df_Lines_take_line.at_) fd ["self"] (spF (S K) F_Lines_take_line 1) := by
  obtain ⟨fd_Lines_is_read, D_Lines_is_read⟩ := c.says.d.def_ 10 (d := df_Lines_is_read) rfl
  have O_Lines_is_read := ok_Lines_is_read (base := base) c D_Lines_is_read
  have B_Lines_is_read : Binds K fd_Lines_is_read ["self"] [] := D_Lines_is_read.bindsN fun _ _ _ _ _ _ us hl => match us, hl with | [_], _ => rfl
  obtain ⟨fd_Lines_refuse, D_Lines_refuse⟩ := c.says.d.def_ 11 (d := df_Lines_refuse) rfl
  have O_Lines_refuse := ok_Lines_refuse (base := base) c D_Lines_refuse
  have B_Lines_refuse : Binds K fd_Lines_refuse ["self"] [] := D_Lines_refuse.bindsN fun _ _ _ _ _ _ us hl => match us, hl with | [_], _ => rfl
  exact fn_ok (S := S K) D sc_Lines_take_line (inj K) fun cdv A outer s H E _i _j => (mss_cons (ms_if (mt_val (me_meth0 (S := S K) (cid := 1) (mid := 8) (me_var 0) (c.cls 40) (c.meth 51) O_Lines_is_read B_Lines_is_read .nil rfl (show 8 < nF from by decide))) (mss_one (ms_expr (me_meth0 (S := S K) (cid := 1) (mid := 9) (me_var 0) (c.cls 40) (c.meth 52) O_Lines_refuse B_Lines_refuse .nil rfl (show 9 < nF from by decide)))) mss_nil) (mss_cons (ms_fldaug (fld1 (S := S K) (f := 5) (c := 1) (show 5 < nF from by decide) (c.cls 40) (c.noat 43)) in_add om_inadd (me_var 0) me_int) (mss_one (ms_ret (me_ix (me_fld (fld1 (S := S K) (f := 3) (c := 1) (show 3 < nF from by decide) (c.cls 40) (c.noat 41)) (me_var 0)) (me_bin op_sub om_sub (me_fld (fld1 (S := S K) (f := 5) (c := 1) (show 5 < nF from by decide) (c.cls 40) (c.noat 43)) (me_var 0)) me_int))))))
abbrev N_Line_is_read : List Str := ["self"]
theorem sc_Line_is_read : FnScope ["self"] ["self"] (defScope sf_Line_is_read) := ⟨rfl, rfl, rfl, by decide +kernel, rfl, by decide +kernel, by decide +kernel⟩
theorem ok_Line_is_read (c : C w K mg h) {fd : FuncData} (D : FunD K df_Line_is_read.name df_Line_is_read.qual df_Line_is_read.params df_Line_is_read.body df_Line_is_read.scope (df_Line_is_read.dvs K) (df_Line_is_read.kws K) (fAd K df_Line_is_read.at_) fd) : FnOk P w K mg base (L2.CX P w) 1 (fAd K df_Line_is_read.at_) fd ["self"] (spF (S K) F_Line_is_read 1) := by
  exact fn_ok (S := S K) D sc_Line_is_read (inj K) fun cdv A outer s H E _i _j => (mss_one (ms_ret (me_cmp or_eq om_eq (me_fld (fld1 (S := S K) (f := 5) (c := 0) (show 5 < nF from by decide) (c.cls 45) (c.noat 48)) (me_var 0)) (me_callB cr_len cm_len rfl (c.free 34) (by decide +kernel) (ma_cons (me_fld (fld1 (S := S K) (f := 7) (c := 0) (show 7 < nF from by decide) (c.cls 45) (c.noat 47)) (me_var 0)) ma_nil)))))
abbrev N_Line_refuse : List Str := ["self"]
theorem sc_Line_refuse : FnScope ["self"] ["self"] (defScope sf_Line_refuse) := ⟨rfl, rfl, rfl, by decide +kernel, rfl, by decide +kernel, by decide +kernel⟩
theorem ok_Line_refuse (c : C w K mg h) {fd : FuncData} (D : FunD K df_Line_refuse.name df_Line_refuse.qual df_Line_refuse.params df_Line_refuse.body df_Line_refuse.scope (df_Line_refuse.dvs K) (df_Line_refuse.kws K) (fAd K df_Line_refuse.at_) fd) : FnOk P w K mg base (L2.CX P w) 2 (fAd K df_Line_refuse.at_) fd ["self"] (spF (S K) F_Line_refuse 1) := by
  exact fn_ok (S := S K) D sc_Line_refuse (inj K) fun cdv A outer s H E _i _j => (mss_one (ms_raise2 (S := S K) (cid := 13) (fid := 1) (gid := 2) (xt_BadText c) tx_BadText rfl (c.glo 12) (ma_cons (me_fld (fld1 (S := S K) (f := 6) (c := 0) (show 6 < nF from by decide) (c.cls 45) (c.noat 46)) (me_var 0)) (ma_cons (me_fld (fld1 (S := S K) (f := 5) (c := 0) (show 5 < nF from by decide) (c.cls 45) (c.noat 48)) (me_var 0)) ma_nil)) rfl rfl (show 1 < nF from by decide) (show 2 < nF from by decide)))
abbrev N_Line_take_word : List Str := ["self"]
theorem sc_Line_take_word : FnScope ["self"] ["self"] (defScope sf_Line_take_word) := ⟨rfl, rfl, rfl, by decide +kernel, rfl, by decide +kernel, by decide +kernel⟩
theorem ok_Line_take_word (c : C w K mg h) {fd : FuncData} (D : FunD K df_Line_take_word.name df_Line_take_word.qual df_Line_take_word.params df_Line_take_word.body df_Line_take_word.scope (df_Line_take_word.dvs K) (df_Line_take_word.kws K) (fAd K df_Line_take_word.at_) fd) : FnOk P w K mg base (L2.CX P w) 3 (fAd K df_Line_take_word.at_) fd ["self"] (spF (S K) F_Line_take_word 1) := by
  obtain ⟨fd_Line_is_read, D_Line_is_read⟩ := c.says.d.def_ 13 (d := df_Line_is_read) rfl
  have O_Line_is_read := ok_Line_is_read (base := base) c D_Line_is_read
  have B_Line_is_read : Binds K fd_Line_is_read ["self"] [] := D_Line_is_read.bindsN fun _ _ _ _ _ _ us hl => match us, hl with | [_], _ => rfl
  obtain ⟨fd_Line_refuse, D_Line_refuse⟩ := c.says.d.def_ 14 (d := df_Line_refuse) rfl
  have O_Line_refuse := ok_Line_refuse (base := base) c D_Line_refuse
  have B_Line_refuse : Binds K fd_Line_refuse ["self"] [] := D_Line_refuse.bindsN fun _ _ _ _ _ _ us hl => match us, hl with | [_], _ => rfl
  exact fn_ok (S := S K) D sc_Line_take_word (inj K) fun cdv A outer s H E _i _j => (mss_cons (ms_if (mt_val (me_meth0 (S := S K) (cid := 0) (mid := 8) (me_var 0) (c.cls 45) (c.meth 54) O_Line_is_read B_Line_is_read .nil rfl (show 8 < nF from by decide))) (mss_one (ms_expr (me_meth0 (S := S K) (cid := 0) (mid := 9) (me_var 0) (c.cls 45) (c.meth 55) O_Line_refuse B_Line_refuse .nil rfl (show 9 < nF from by decide)))) mss_nil) (mss_cons (ms_fldaug (fld1 (S := S K) (f := 5) (c := 0) (show 5 < nF from by decide) (c.cls 45) (c.noat 48)) in_add om_inadd (me_var 0) me_int) (mss_one (ms_ret (me_ix (me_fld (fld1 (S := S K) (f := 7) (c := 0) (show 7 < nF from by decide) (c.cls 45) (c.noat 47)) (me_var 0)) (me_bin op_sub om_sub (me_fld (fld1 (S := S K) (f := 5) (c := 0) (show 5 < nF from by decide) (c.cls 45) (c.noat 48)) (me_var 0)) me_int))))))
abbrev N_Line_need_one_of : List Str := ["self", "words"]
theorem sc_Line_need_one_of : FnScope ["self", "words"] ["self", "words"] (defScope sf_Line_need_one_of) := ⟨rfl, rfl, rfl, by decide +kernel, rfl, by decide +kernel, by decide +kernel⟩
theorem ok_Line_need_one_of (c : C w K mg h) {fd : FuncData} (D : FunD K df_Line_need_one_of.name df_Line_need_one_of.qual df_Line_need_one_of.params df_Line_need_one_of.body df_Line_need_one_of.scope (df_Line_need_one_of.dvs K) (df_Line_need_one_of.kws K) (fAd K df_Line_need_one_of.at_) fd) : FnOk P w K mg base (L2.CX P w) 4 (fAd K df_Line_need_one_of.at_) fd ["self", "words"] (spF (S K) F_Line_need_one_of 2) := by
  obtain ⟨fd_Line_is_read, D_Line_is_read⟩ := c.says.d.def_ 13 (d := df_Line_is_read) rfl
  have O_Line_is_read := ok_Line_is_read (base := base) c D_Line_is_read
  have B_Line_is_read : Binds K fd_Line_is_read ["self"] [] := D_Line_is_read.bindsN fun _ _ _ _ _ _ us hl => match us, hl with | [_], _ => rfl
  obtain ⟨fd_Line_refuse, D_Line_refuse⟩ := c.says.d.def_ 14 (d := df_Line_refuse) rfl
  have O_Line_refuse := ok_Line_refuse (base := base) c D_Line_refuse
  have B_Line_refuse : Binds K fd_Line_refuse ["self"] [] := D_Line_refuse.bindsN fun _ _ _ _ _ _ us hl => match us, hl with | [_], _ => rfl
  obtain ⟨fd_Line_take_word, D_Line_take_word⟩ := c.says.d.def_ 15 (d := df_Line_take_word) rfl
  have O_Line_take_word := ok_Line_take_word (base := base) c D_Line_take_word
  have B_Line_take_word : Binds K fd_Line_take_word ["self"] [] := D_Line_take_word.bindsN fun _ _ _ _ _ _ us hl => match us, hl with | [_], _ => rfl
  exact fn_ok (S := S K) D sc_Line_need_one_of (inj K) fun cdv A outer s H E _i _j => (mss_cons (ms_if (mt_bool (mw_or (mt_val (me_meth0 (S := S K) (cid := 0) (mid := 8) (me_var 0) (c.cls 45) (c.meth 54) O_Line_is_read B_Line_is_read .nil rfl (show 8 < nF from by decide))) (pw_or1 (mt_cmp or_notIn (om_in true) (me_ix (me_fld (fld1 (S := S K) (f := 7) (c := 0) (show 7 < nF from by decide) (c.cls 45) (c.noat 47)) (me_var 0)) (me_fld (fld1 (S := S K) (f := 5) (c := 0) (show 5 < nF from by decide) (c.cls 45) (c.noat 48)) (me_var 0))) (me_var 1))))) (mss_one (ms_expr (me_meth0 (S := S K) (cid := 0) (mid := 9) (me_var 0) (c.cls 45) (c.meth 55) O_Line_refuse B_Line_refuse .nil rfl (show 9 < nF from by decide)))) mss_nil) (mss_one (ms_ret (me_meth0 (S := S K) (cid := 0) (mid := 11) (me_var 0) (c.cls 45) (c.meth 56) O_Line_take_word B_Line_take_word .nil rfl (show 11 < nF from by decide)))))
abbrev N_read_course : List Str := ["text", "lines", "line", "found"]
theorem sc_read_course : FnScope ["text", "lines", "line", "found"] ["text"] (defScope sf_read_course) := ⟨rfl, rfl, rfl, by decide +kernel, rfl, by decide +kernel, by decide +kernel⟩
theorem ok_read_course (c : C w K mg h) {fd : FuncData} (D : FunD K df_read_course.name df_read_course.qual df_read_course.params df_read_course.body df_read_course.scope (df_read_course.dvs K) (df_read_course.kws K) (fAd K df_read_course.at_) fd) : FnOk P w K mg base (L2.CX P w) 5 (fAd K df_read_course.at_) fd ["text"] (spF (S K) F_read_course 1) := by
  obtain ⟨fd_lines_of, D_lines_of⟩ := c.says.d.def_ 9 (d := df_lines_of) rfl
  have O_lines_of := ok_lines_of (base := base) c D_lines_of
  have B_lines_of : Binds K fd_lines_of ["text"] [] := D_lines_of.bindsN fun _ _ _ _ _ _ us hl => match us, hl with | [_], _ => rfl
  obtain ⟨fd_Lines_take_line, D_Lines_take_line⟩ := c.says.d.def_ 12 (d := df_Lines_take_line) rfl
  have O_Lines_take_line := ok_Lines_take_line (base := base) c D_Lines_take_line
  have B_Lines_take_line : Binds K fd_Lines_take_line ["self"] [] := D_Lines_take_line.bindsN fun _ _ _ _ _ _ us hl => match us, hl with | [_], _ => rfl
  obtain ⟨fd_Line_is_read, D_Line_is_read⟩ := c.says.d.def_ 13 (d := df_Line_is_read) rfl
  have O_Line_is_read := ok_Line_is_read (base := base) c D_Line_is_read
  have B_Line_is_read : Binds K fd_Line_is_read ["self"] [] := D_Line_is_read.bindsN fun _ _ _ _ _ _ us hl => match us, hl with | [_], _ => rfl
  obtain ⟨fd_Line_need_one_of, D_Line_need_one_of⟩ := c.says.d.def_ 16 (d := df_Line_need_one_of) rfl
  have O_Line_need_one_of := ok_Line_need_one_of (base := base) c D_Line_need_one_of
  have B_Line_need_one_of : Binds K fd_Line_need_one_of ["self", "words"] [] := D_Line_need_one_of.bindsN fun _ _ _ _ _ _ us hl => match us, hl with | [_, _], _ => rfl
  obtain ⟨fd_Lines_is_read, D_Lines_is_read⟩ := c.says.d.def_ 10 (d := df_Lines_is_read) rfl
  have O_Lines_is_read := ok_Lines_is_read (base := base) c D_Lines_is_read
  have B_Lines_is_read : Binds K fd_Lines_is_read ["self"] [] := D_Lines_is_read.bindsN fun _ _ _ _ _ _ us hl => match us, hl with | [_], _ => rfl
  exact fn_ok (S := S K) D sc_read_course (inj K) fun cdv A outer s H E _i _j => (mss_cons (ms_if (mt_cmp or_eq om_eq (me_var 0) (me_str [])) (mss_one (ms_ret (me_tup ma_nil))) mss_nil) (mss_cons (ms_set 1 sc_read_course.nd (me_call O_lines_of rfl (c.glo 21) D_lines_of.kp B_lines_of .nil rfl (ma_cons (me_var 0) ma_nil))) (mss_cons (ms_set2 2 3 sc_read_course.nd (ma_cons (me_meth0 (S := S K) (cid := 1) (mid := 10) (me_var 1) (c.cls 40) (c.meth 53) O_Lines_take_line B_Lines_take_line .nil rfl (show 10 < nF from by decide)) (ma_cons (me_lst ma_nil) ma_nil))) (mss_cons (ms_while 100000 (mt_not (mt_val (me_meth0 (S := S K) (cid := 0) (mid := 8) (me_var 2) (c.cls 45) (c.meth 54) O_Line_is_read B_Line_is_read .nil rfl (show 8 < nF from by decide)))) (mss_one (ms_expr (me_append (me_var 3) (me_meth (S := S K) (cid := 0) (mid := 12) (me_var 2) (c.cls 45) (c.meth 57) O_Line_need_one_of B_Line_need_one_of .nil rfl (show 12 < nF from by decide) (ma_cons (me_gtup (vs := [.str ⟨#[121, 101, 115]⟩, .str ⟨#[110, 111]⟩]) [.str [121, 101, 115], .str [110, 111]] rfl (c.glo 16) (tupB_ok (ex_at c.says.more 0 rfl))) ma_nil)))))) (mss_cons (ms_if (mt_not (mt_val (me_meth0 (S := S K) (cid := 1) (mid := 8) (me_var 1) (c.cls 40) (c.meth 51) O_Lines_is_read B_Lines_is_read .nil rfl (show 8 < nF from by decide)))) (mss_one (ms_raise2 (S := S K) (cid := 13) (fid := 1) (gid := 2) (xt_BadText c) tx_BadText rfl (c.glo 12) (ma_cons me_int (ma_cons me_int ma_nil)) rfl rfl (show 1 < nF from by decide) (show 2 < nF from by decide))) mss_nil) (mss_one (ms_ret (me_callTy cr_tuple cm_tuple rfl (c.free 36) (by decide +kernel) (ma_cons (me_var 3) ma_nil)))))))))
abbrev N__law_bad : List Str := ["text", "words", "at", "word"]
theorem sc__law_bad : FnScope ["text", "words", "at", "word"] ["text"] (defScope sf__law_bad) := ⟨rfl, rfl, rfl, by decide +kernel, rfl, by decide +kernel, by decide +kernel⟩
theorem ok__law_bad (c : C w K mg h) {fd : FuncData} (D : FunD K df__law_bad.name df__law_bad.qual df__law_bad.params df__law_bad.body df__law_bad.scope (df__law_bad.dvs K) (df__law_bad.kws K) (fAd K df__law_bad.at_) fd) : FnOk P w K mg base (L2.CX P w) 1 (fAd K df__law_bad.at_) fd ["text"] (spF (S K) F__law_bad 1) := by
  exact fn_ok (S := S K) D sc__law_bad (inj K) fun cdv A outer s H E _i _j => (mss_cons (ms_set 1 sc__law_bad.nd (me_ifexp (mt_cmp or_ne om_ne (me_var 0) (me_str [])) (me_split (me_ix (me_split (me_var 0) (me_str [10])) me_int) (me_str [32])) (me_lst ma_nil))) (mss_cons (ms_for (mi_enum rfl (c.free 44) (ma_cons (me_var 1) ma_nil)) (mg_tup (mgs_cons (mg_name 2 sc__law_bad.nd) (mgs_cons (mg_name 3 sc__law_bad.nd) mgs_nil))) (mss_one (ms_if (mt_cmp or_notIn (om_in true) (me_var 3) (me_tup (ma_cons (me_str [121, 101, 115]) (ma_cons (me_str [110, 111]) ma_nil)))) (mss_one (ms_ret (me_tup (ma_cons (me_str [116, 101, 120, 116]) (ma_cons me_int (ma_cons (me_var 2) ma_nil)))))) mss_nil))) (mss_one (ms_ret (me_ifexp (mt_cmp or_in (om_in false) (me_str [10]) (me_var 0)) (me_tup (ma_cons (me_str [116, 101, 120, 116]) (ma_cons me_int (ma_cons me_int ma_nil)))) me_non)))))
abbrev N__law_heard : List Str := hdN
theorem sc__law_heard : FnScope hdN ["ask"] (defScope sf__law_heard) := ⟨rfl, rfl, rfl, by decide +kernel, rfl, by decide +kernel, by decide +kernel⟩
theorem rest__law_heard (c : C w K mg h) {cdv : Value} {A : Around} {outer : List Env} {s : Shared} {H : Hp} {j : Nat} [_i : Ok (S K) Eno (cxOf C8.CX0 P w K mg base hdN "_law_heard" (defScope sf__law_heard) (fAd K df__law_heard.at_) cdv A outer s H C8.E0).nox j] :
    PSs (cxOf C8.CX0 P w K mg base hdN "_law_heard" (defScope sf__law_heard) (fAd K df__law_heard.at_) cdv A outer s H C8.E0).nox (defBody sf__law_heard).tail.tail (IS (S K) Eno m_rest__law_heard) := by
  exact (mss_cons (ms_if (mt_isN (me_var 2)) (mss_one (ms_ret (me_lst (ma_cons (me_var 1) ma_nil)))) mss_nil) (mss_cons (ms_if (mt_val (me_is (.own _) (fun t b h => kit_single ((tx0_ok (K := K) (us := [.ref (ga K "BadText")]) (of_decide_eq_true (ex_at c.says.more 1 rfl)) (of_decide_eq_true (ex_at c.says.more 2 rfl))) t b h)) noC_any (xc_0 (α := fun i => ClsE (S K).K ((S K).ca i)) (Hz.insE_ok (ex_at c.says.more 3 rfl) (ex_at c.says.more 4 rfl)) (Hz.insE_ok (ex_at c.says.more 5 rfl) (ex_at c.says.more 6 rfl))) (me_var 2) (pk_own rfl (c.glo 12)) rfl (c.free 37))) (mss_one (ms_ret (me_tup (ma_cons (me_str [116, 101, 120, 116]) (ma_cons (me_xf (show 1 < nF from by decide) (xc_0 (α := fun i => XfC (S K).K ((S K).ca i) ∧ PySem.W.findIn (S K).K (.ref ((S K).ca i)) ((S K).fn 1) = some none) (⟨xfB_ok (ex_at c.says.more 4 rfl), of_decide_eq_true (ex_at c.says.more 7 rfl)⟩) (⟨xfB_ok (ex_at c.says.more 6 rfl), of_decide_eq_true (ex_at c.says.more 8 rfl)⟩)) (me_var 2) rfl) (ma_cons (me_xf (show 2 < nF from by decide) (xc_0 (α := fun i => XfC (S K).K ((S K).ca i) ∧ PySem.W.findIn (S K).K (.ref ((S K).ca i)) ((S K).fn 2) = some none) (⟨xfB_ok (ex_at c.says.more 4 rfl), of_decide_eq_true (ex_at c.says.more 9 rfl)⟩) (⟨xfB_ok (ex_at c.says.more 6 rfl), of_decide_eq_true (ex_at c.says.more 10 rfl)⟩)) (me_var 2) rfl) ma_nil)))))) mss_nil) (mss_cons (ms_if (mt_val (me_isT (.cons (.own _) (.cons (.own _) (.cons (.own _) (.cons (.own _) (.cons (.own _) (.cons (.own _) (.cons (.own _) Paired.nil))))))) (tx1_ok (K := K) (us := [.ref (ga K "BadValue"), .ref (ga K "BadPaper"), .ref (ga K "Unlike"), .ref (ga K "Nothing"), .ref (ga K "BadTable"), .ref (ga K "BadCode"), .ref (ga K "BadCourse")]) (of_decide_eq_true (ex_at c.says.more 11 rfl)) (of_decide_eq_true (ex_at c.says.more 12 rfl))) noC_any (xc_0 (α := fun i => ClsE (S K).K ((S K).ca i)) (Hz.insE_ok (ex_at c.says.more 3 rfl) (ex_at c.says.more 4 rfl)) (Hz.insE_ok (ex_at c.says.more 5 rfl) (ex_at c.says.more 6 rfl))) (me_var 2) (Mi.pk_cons (pk_own rfl (c.glo 9)) (Mi.pk_cons (pk_own rfl (c.glo 10)) (Mi.pk_cons (pk_own rfl (c.glo 13)) (Mi.pk_cons (pk_own rfl (c.glo 14)) (Mi.pk_cons (pk_own rfl (c.glo 8)) (Mi.pk_cons (pk_own rfl (c.glo 5)) (Mi.pk_cons (pk_own rfl (c.glo 7)) Mi.pk_nil))))))) rfl (c.free 37))) (mss_one (ms_ret (me_tup (ma_cons (me_str [112, 97, 114, 116]) (ma_cons (me_xf (show 0 < nF from by decide) (xc_0 (α := fun i => XfC (S K).K ((S K).ca i) ∧ PySem.W.findIn (S K).K (.ref ((S K).ca i)) ((S K).fn 0) = some none) (⟨xfB_ok (ex_at c.says.more 4 rfl), of_decide_eq_true (ex_at c.says.more 13 rfl)⟩) (⟨xfB_ok (ex_at c.says.more 6 rfl), of_decide_eq_true (ex_at c.says.more 14 rfl)⟩)) (me_var 2) rfl) ma_nil))))) mss_nil) mss_bad)))
abbrev N_law : List Str := ["script", "pen", "turn", "course", "text", "words", "at", "odd", "bent", "due", "bad", "none"]
theorem sc_law : FnScope ["script", "pen", "turn", "course", "text", "words", "at", "odd", "bent", "due", "bad", "none"] ["script"] (defScope sf_law) := ⟨rfl, rfl, rfl, by decide +kernel, rfl, by decide +kernel, by decide +kernel⟩
theorem ok_law (c : C w K mg h) (tb : ∀ p ∈ [cT K df_law.at_], LamX.TabB base mg p.1 p.2) {fd : FuncData} (D : FunD K df_law.name df_law.qual df_law.params df_law.body df_law.scope (df_law.dvs K) (df_law.kws K) (fAd K df_law.at_) fd) : FnOk P w K mg base (L2.CX P w) 8 (fAd K df_law.at_) fd ["script"] (spF (S K) F_law 1) := by
  obtain ⟨fd__law_pen, D__law_pen⟩ := c.says.d.def_ 0 (d := df__law_pen) rfl
  have O__law_pen := ok__law_pen (base := base) c D__law_pen
  have B__law_pen : Binds K fd__law_pen ["script"] [] := D__law_pen.bindsN fun _ _ _ _ _ _ us hl => match us, hl with | [_], _ => rfl
  obtain ⟨fd__law_course, D__law_course⟩ := c.says.d.def_ 3 (d := df__law_course) rfl
  have O__law_course := ok__law_course (base := base) c D__law_course
  have B__law_course : Binds K fd__law_course ["pen", "most"] [] := D__law_course.bindsN fun _ _ _ _ _ _ us hl => match us, hl with | [_, _], _ => rfl
  obtain ⟨fd__law_pick, D__law_pick⟩ := c.says.d.def_ 2 (d := df__law_pick) rfl
  have O__law_pick := ok__law_pick (base := base) c D__law_pick
  have B__law_pick : Binds K fd__law_pick ["pen", "some"] [] := D__law_pick.bindsN fun _ _ _ _ _ _ us hl => match us, hl with | [_, _], _ => rfl
  obtain ⟨fd_course_text, D_course_text⟩ := c.says.d.def_ 6 (d := df_course_text) rfl
  have O_course_text := ok_course_text (base := base) c D_course_text
  have B_course_text : Binds K fd_course_text ["course"] [] := D_course_text.bindsN fun _ _ _ _ _ _ us hl => match us, hl with | [_], _ => rfl
  have KB_course_text : KwB K fd_course_text ["course"] := kwB_of D_course_text fun _ _ _ _ _ _ ws hl => match ws, hl with | [_], _ => rfl
  obtain ⟨fd_read_course, D_read_course⟩ := c.says.d.def_ 17 (d := df_read_course) rfl
  have O_read_course := ok_read_course (base := base) c D_read_course
  have B_read_course : Binds K fd_read_course ["text"] [] := D_read_course.bindsN fun _ _ _ _ _ _ us hl => match us, hl with | [_], _ => rfl
  have KB_read_course : KwB K fd_read_course ["text"] := kwB_of D_read_course fun _ _ _ _ _ _ ws hl => match ws, hl with | [_], _ => rfl
  obtain ⟨fd__law_draw, D__law_draw⟩ := c.says.d.def_ 1 (d := df__law_draw) rfl
  have O__law_draw := ok__law_draw (base := base) c D__law_draw
  have B__law_draw : Binds K fd__law_draw ["pen", "many"] [] := D__law_draw.bindsN fun _ _ _ _ _ _ us hl => match us, hl with | [_, _], _ => rfl
  obtain ⟨fd__law_bad, D__law_bad⟩ := c.says.d.def_ 18 (d := df__law_bad) rfl
  have O__law_bad := ok__law_bad (base := base) c D__law_bad
  have B__law_bad : Binds K fd__law_bad ["text"] [] := D__law_bad.bindsN fun _ _ _ _ _ _ us hl => match us, hl with | [_], _ => rfl
  obtain ⟨fd__law_heard, D__law_heard⟩ := c.says.d.def_ 19 (d := df__law_heard) rfl
  have B__law_heard : Binds K fd__law_heard ["ask"] [] := D__law_heard.bindsN fun _ _ _ _ _ _ us hl => match us, hl with | [_], _ => rfl
  exact fn_okC (S := S K) D sc_law (inj K) fun cdv A outer s H E hcode _i _j => (mss_cons (ms_set 1 sc_law.nd (me_call O__law_pen rfl (c.glo 24) D__law_pen.kp B__law_pen .nil rfl (ma_cons (me_var 0) ma_nil))) (mss_cons (ms_for (mi_rng1 rfl (c.free 32) (ma_cons me_int ma_nil)) (mg_name 2 sc_law.nd) (mss_cons (ms_set 3 sc_law.nd (me_bin or_mul om_mul (me_call O__law_course rfl (c.glo 28) D__law_course.kp B__law_course .nil rfl (ma_cons (me_var 1) (ma_cons me_int ma_nil))) (me_call O__law_pick rfl (c.glo 26) D__law_pick.kp B__law_pick .nil rfl (ma_cons (me_var 1) (ma_cons (me_lst (ma_cons me_int (ma_cons me_int (ma_cons me_int ma_nil)))) ma_nil))))) (mss_cons (ms_set 4 sc_law.nd (me_join (me_str [32]) (me_var 3))) (mss_cons (ms_if (mt_bool (mw_or (mt_cmp or_ne om_ne (me_lst (ma_cons (me_call O_course_text rfl (c.glo 22) D_course_text.kp B_course_text .nil rfl (ma_cons (me_callTy cr_list cm_list rfl (c.free 31) (by decide +kernel) (ma_cons (me_var 3) ma_nil)) ma_nil)) (ma_cons (me_callK0 O_course_text rfl (c.glo 22) D_course_text.kp KB_course_text (mk_cons (me_var 3) mk_nil) (by decide)) ma_nil))) (me_bin or_mul om_mul (me_lst (ma_cons (me_var 4) ma_nil)) me_int)) (mw_or (mt_cmp or_ne om_ne (me_call O_read_course rfl (c.glo 23) D_read_course.kp B_read_course .nil rfl (ma_cons (me_var 4) ma_nil)) (me_var 3)) (mw_or (mt_cmp or_ne om_ne (me_callK0 O_read_course rfl (c.glo 23) D_read_course.kp KB_read_course (mk_cons (me_var 4) mk_nil) (by decide)) (me_var 3)) (pw_or1 (mt_not (mt_val (me_is (.ty "tuple") (tbB_one tb2_ok) noC_any noC_any (me_call O_read_course rfl (c.glo 23) D_read_course.kp B_read_course .nil rfl (ma_cons (me_var 4) ma_nil)) (pk_ty (T := "tuple") rfl (c.free 36) (by decide +kernel)) rfl (c.free 37))))))))) (mss_one (ms_ret me_bl)) mss_nil) (mss_cons (ms_set 5 sc_law.nd (me_split (me_var 4) (me_str [32]))) (mss_cons (ms_set 6 sc_law.nd (me_call O__law_draw rfl (c.glo 25) D__law_draw.kp B__law_draw .nil rfl (ma_cons (me_var 1) (ma_cons (me_callB cr_len cm_len rfl (c.free 34) (by decide +kernel) (ma_cons (me_var 5) ma_nil)) ma_nil)))) (mss_cons (ms_set 7 sc_law.nd (me_call O__law_pick rfl (c.glo 26) D__law_pick.kp B__law_pick .nil rfl (ma_cons (me_var 1) (ma_cons (me_lst (ma_cons (me_str []) (ma_cons (me_str [89, 101, 115]) (ma_cons (me_str [121]) (ma_cons (me_str [110, 111, 110, 101]) (ma_cons (me_str [49]) (ma_cons (me_str [121, 101, 115]) (ma_cons (me_str [110, 111]) (ma_cons (me_str [121, 101, 115, 10, 110, 111]) (ma_cons (me_str [32, 121, 101, 115]) (ma_cons (me_str [110, 111, 32]) ma_nil))))))))))) ma_nil)))) (mss_cons (ms_for (mi_tup (me_tup (ma_cons (me_join (me_str [32]) (me_bin or_add om_add (me_bin or_add om_add (me_slice (me_var 5) mo_none (mo_some (me_var 6))) (me_lst (ma_cons (me_var 7) ma_nil))) (me_slice (me_var 5) (mo_some (me_var 6)) mo_none))) (ma_cons (me_join (me_str [32]) (me_bin or_add om_add (me_bin or_add om_add (me_slice (me_var 5) mo_none (mo_some (me_var 6))) (me_lst (ma_cons (me_var 7) ma_nil))) (me_slice (me_var 5) (mo_some (me_bin or_add om_add (me_var 6) me_int)) mo_none))) (ma_cons (me_bin or_add om_add (me_var 4) (me_str [10])) (ma_cons (me_bin or_add om_add (me_str [10]) (me_var 4)) (ma_cons (me_bin or_add om_add (me_str [32]) (me_var 4)) ma_nil))))))) (mg_name 8 sc_law.nd) (mss_cons (ms_set 9 sc_law.nd (me_call O__law_bad rfl (c.glo 29) D__law_bad.kp B__law_bad .nil rfl (ma_cons (me_var 8) ma_nil))) (mss_one (ms_if (mt_cmp or_ne om_ne (me_heard (S := S K) (j := 5) (dk := []) (ce := ce) (cr := m_rest__law_heard) rfl (c.glo 27) D__law_heard B__law_heard sc__law_heard rfl rfl rfl rfl rfl rfl (c.glo 1) (ce_ok c) (tb _ List.mem_cons_self) hcode List.mem_cons_self (hu_law K) (Lm.lamS2_by (N := N_law) (sc := defScope sf_law) (by decide +kernel)) (.none rfl rfl) (bindL0 (by intros; rfl)) (fun y h => nomatch h) (fun cdv A outer s H _i => rest__law_heard c (_i := _i)) (fun A outer s H E f c' _i _j => (me_call O_read_course rfl (c.glo 23) D_read_course.kp B_read_course .nil rfl (ma_cons (me_var 8) ma_nil))) (by decide)) (me_ifexp (mt_notN (me_var 9)) (me_var 9) (me_lst (ma_cons (me_ifexp (mt_cmp or_ne om_ne (me_var 8) (me_str [])) (me_callTy cr_tuple cm_tuple rfl (c.free 36) (by decide +kernel) (ma_cons (me_split (me_var 8) (me_str [32])) ma_nil)) (me_tup ma_nil)) ma_nil)))) (mss_one (ms_ret me_bl)) mss_nil)))) (mss_cons (ms_set 10 sc_law.nd (me_call O__law_pick rfl (c.glo 26) D__law_pick.kp B__law_pick .nil rfl (ma_cons (me_var 1) (ma_cons (me_lst (ma_cons me_non (ma_cons me_int (ma_cons (me_str [121, 101, 115]) (ma_cons (me_lst (ma_cons (me_str [121, 101, 115]) (ma_cons me_non ma_nil))) (ma_cons (me_tup (ma_cons (me_str [89, 101, 115]) ma_nil)) (ma_cons (me_dic1 [121, 101, 115] me_int) (ma_cons (me_lst (ma_cons me_bl ma_nil)) (ma_cons (me_lst (ma_cons (me_str [121, 101, 115]) (ma_cons (me_lst (ma_cons (me_str [110, 111]) ma_nil)) ma_nil))) ma_nil))))))))) ma_nil)))) (mss_cons (ms_set 11 sc_law.nd (me_call O__law_pick rfl (c.glo 26) D__law_pick.kp B__law_pick .nil rfl (ma_cons (me_var 1) (ma_cons (me_lst (ma_cons me_non (ma_cons me_int (ma_cons (me_tup (ma_cons (me_str [121, 101, 115]) ma_nil)) (ma_cons me_bl ma_nil))))) ma_nil)))) (mss_one (ms_if (mt_cmp or_ne om_ne (me_lst (ma_cons (me_heard (S := S K) (j := 3) (dk := []) (ce := ce) (cr := m_rest__law_heard) rfl (c.glo 27) D__law_heard B__law_heard sc__law_heard rfl rfl rfl rfl rfl rfl (c.glo 1) (ce_ok c) (tb _ List.mem_cons_self) hcode List.mem_cons_self (hu_law K) (Lm.lamS2_by (N := N_law) (sc := defScope sf_law) (by decide +kernel)) (.none rfl rfl) (bindL0 (by intros; rfl)) (fun y h => nomatch h) (fun cdv A outer s H _i => rest__law_heard c (_i := _i)) (fun A outer s H E f c' _i _j => (me_call O_course_text rfl (c.glo 22) D_course_text.kp B_course_text .nil rfl (ma_cons (me_var 10) ma_nil))) (by decide)) (ma_cons (me_heard (S := S K) (j := 5) (dk := [("a1", 0)]) (ce := ce) (cr := m_rest__law_heard) rfl (c.glo 27) D__law_heard B__law_heard sc__law_heard rfl rfl rfl rfl rfl rfl (c.glo 1) (ce_ok c) (tb _ List.mem_cons_self) hcode List.mem_cons_self (hu_law K) (Lm.lamS2_by (N := N_law) (sc := defScope sf_law) (by decide +kernel)) (.one _ _ _ _ rfl rfl) (bindL1 (by intros; exact ⟨_, rfl, rfl⟩)) (fun y h => by cases h with | head => rfl | tail _ h => cases h) (fun cdv A outer s H _i => rest__law_heard c (_i := _i)) (fun A outer s H E f c' _i _j => (me_call O_read_course rfl (c.glo 23) D_read_course.kp B_read_course .nil rfl (ma_cons (me_var 11) ma_nil))) (by decide)) ma_nil))) (me_lst (ma_cons (me_tup (ma_cons (me_str [112, 97, 114, 116]) (ma_cons (me_str [99, 111, 117, 114, 115, 101]) ma_nil))) (ma_cons (me_tup (ma_cons (me_str [116, 101, 120, 116]) (ma_cons me_int (ma_cons me_int ma_nil)))) ma_nil)))) (mss_one (ms_ret me_bl)) mss_nil)))))))))))) (mss_one (ms_ret (me_and (me_cmp or_eq om_eq (me_call O_course_text rfl (c.glo 22) D_course_text.kp B_course_text .nil rfl (ma_cons (me_lst ma_nil) ma_nil)) (me_str [])) (me_one (me_cmp or_eq om_eq (me_call O_read_course rfl (c.glo 23) D_read_course.kp B_read_course .nil rfl (ma_cons (me_str []) ma_nil)) (me_tup ma_nil))))))))
theorem facts (c : C w K mg h) {f : Addr} (hfa : mg "law" = some (.ref f)) (hF : ∀ (ns : List Int) (own : Bool), ns.length ≤ 63 → (∀ z ∈ ns, Builtin.Int.intBits z ≤ 1048576) → ∃ m', F_law [.ref 0] (mem0 own ns) = .ok (.bl true) m') :
    LamX.LawAtS PySem.Challenge.rw_samecourse_k81_texts_of_courses w K (L2.CX PySem.Challenge.rw_samecourse_k81_texts_of_courses.prog w) 8 63 "script" mg f h := by
  obtain ⟨fd, D⟩ := c.says.d.def_ 20 (d := df_law) rfl
  have e := hfa.symm.trans (c.glo 30)
  cases e
  have b := FunD.bindsA (ps := ["script"]) D fun _ _ _ _ _ _ us hl => match us, hl with | [_], _ => rfl
  exact law_at (S := S K) (F := F_law) (fd := fd) c rfl rfl (fun s u => b s [u] rfl) hF fun base _ _ tb => ok_law (base := base) c tb D
end
end K81
open PySem PySem.W PySem.Calls PyProof.Rows
theorem K81.holds_of (hF : ∀ (ns : List Int) (own : Bool), ns.length ≤ 63 → (∀ z ∈ ns, Builtin.Int.intBits z ≤ 1048576) → ∃ m', K81.F_law [.ref 0] (Mi.mem0 own ns) = .ok (.bl true) m') : PySem.Challenge.rw_samecourse_k81_texts_of_courses.Holds := by
  w_on; o_law
  refine HandSHeadRun.head_any (r := OpenLaw.row PySem.Challenge.rw_samecourse_k81_texts_of_courses) (q := view (OpenLaw.row PySem.Challenge.rw_samecourse_k81_texts_of_courses).prog [36]) (H := K81.hk) (ob := K81.ob) (M := 6000) (loose := K81.loose1 ++ K81.loose2) (d := HandSHeadRun.topDef (OpenLaw.row PySem.Challenge.rw_samecourse_k81_texts_of_courses).prog 36) (kwd := []) K81.ob_eq
    (by kernel_rfl) (fun s => by kernel_rfl) K81.run (by kernel_rfl) (by kernel_rfl) (by kernel_rfl) (by rfl) (by first | assumption | decide +kernel) (by decide +kernel) ⟨rfl, rfl, rfl, rfl, rfl, by decide +kernel⟩ ?hw ?hc
  case hw => w_witness2
  case hc =>
    refine LamX.walk_ofTsE (l := PySem.Challenge.rw_samecourse_k81_texts_of_courses) (n := 63) (k := 8) (x := "script") (CX := fun w => L2.CX PySem.Challenge.rw_samecourse_k81_texts_of_courses.prog w) rfl (by decide) (by kernel_rfl) ⟨rfl, by decide, by decide⟩ ?F (fun w H s e s' z => ?_)
    · intro w mg fa h Y G hmg0
      obtain ⟨K, KX, c⟩ := Y
      have hmg : mg ("law" : PySem.Str) = some (.ref fa) := by
        have e : (HandSHeadRun.topDef (OpenLaw.row PySem.Challenge.rw_samecourse_k81_texts_of_courses).prog 36).name = ("law" : PySem.Str) := by kernel_rfl
        rw [← e]
        exact hmg0
      exact ⟨K, KX, K81.facts ⟨c, KX, G⟩ hmg hF⟩
    · obtain ⟨_, _, _, _, _, _, _, _, _, _, _, _, z⟩ := z
      exact z
end

section
set_option Elab.async false
set_option linter.all false
set_option maxRecDepth 100000
set_option autoImplicit false
set_option maxHeartbeats 4000000
/-! The laws' pen, in plain Lean. -/
namespace Mi
open L2
/-- the pen at p: its script at q, how many it drew, what is left of a great one -/
structure Pen (m : Mem) (p q : Nat) (ns : List Int) (a g : Int) : Prop where
  at_ : m.get p = some (.lst [.ref q, .int a, .int g])
  sc : m.get q = some (.lst (ns.map .int))
  ne : q ≠ p
  lp : p < m.next
  lq : q < m.next
  a0 : 0 ≤ a
  g0 : 0 ≤ g
/-- what stays of a memory -/
structure Kept (m m' : Mem) (p : Nat) : Prop where
  next : m.next ≤ m'.next
  get : ∀ k, k < m.next → k ≠ p → m'.get k = m.get k
theorem Kept.refl (m : Mem) (p : Nat) : Kept m m p := ⟨Nat.le_refl _, fun _ _ _ => rfl⟩
theorem Kept.trans {m m1 m2 : Mem} {p : Nat} (a : Kept m m1 p) (b : Kept m1 m2 p) : Kept m m2 p :=
  ⟨Nat.le_trans a.next b.next, fun k h n => (b.get k (Nat.lt_of_lt_of_le h a.next) n).trans (a.get k h n)⟩
theorem Kept.set (m : Mem) (p : Nat) (o : Ob) : Kept m (m.set p o) p := ⟨Nat.le_refl _, fun k _ n => by rw [Mem.get_set, if_neg n]⟩
theorem Kept.new (m : Mem) (p : Nat) (o : Ob) : Kept m (m.new o) p := ⟨Nat.le_succ _, fun k h _ => by rw [Mem.get_new, if_neg (Nat.ne_of_lt h)]⟩
theorem Pen.set {m : Mem} {p q : Nat} {ns : List Int} {a g a' g' : Int} (h : Pen m p q ns a g) (h0 : 0 ≤ a') (h2 : 0 ≤ g') : Pen (m.set p (.lst [.ref q, .int a', .int g'])) p q ns a' g' :=
  ⟨by rw [Mem.get_set, if_pos rfl], by rw [Mem.get_set, if_neg h.ne]; exact h.sc, h.ne, h.lp, h.lq, h0, h2⟩
theorem Pen.new {m : Mem} {p q : Nat} {ns : List Int} {a g : Int} (h : Pen m p q ns a g) (o : Ob) : Pen (m.new o) p q ns a g :=
  ⟨by rw [Mem.get_new, if_neg (Nat.ne_of_lt h.lp)]; exact h.at_, by rw [Mem.get_new, if_neg (Nat.ne_of_lt h.lq)]; exact h.sc, h.ne, Nat.lt_succ_of_lt h.lp, Nat.lt_succ_of_lt h.lq, h.a0, h.g0⟩
/-! ### expressions, evaluated -/
section
variable {e : Lo} {m m1 m2 : Mem} {x y d : D} {a b : E} {f : D → D → Mem → R D} {F : List D → Mem → R D} {ca : Es} {ds : List D} {i : Nat}
theorem v_var (h : e[i]? = some (some d)) : eVar i e m = .ok d m := by
  unfold eVar
  rw [h]
theorem v_c : eC d e m = .ok d m := rfl
theorem v_bin (ha : a e m = .ok x m1) (hb : b e m1 = .ok y m2) : eBin f a b e m = f x y m2 := by
  unfold eBin
  rw [ha]
  show (b e m1).bind _ = _
  rw [hb]
  rfl
theorem v_nil : esNil e m = .ok [] m := rfl
theorem v_cons (ha : a e m = .ok x m1) (hb : ca e m1 = .ok ds m2) : esCons a ca e m = .ok (x :: ds) m2 := by
  unfold esCons
  rw [ha]
  show (ca e m1).bind _ = _
  rw [hb]
  rfl
theorem v_call (ha : ca e m = .ok ds m1) : eCall F ca e m = F ds m1 := by
  unfold eCall
  rw [ha]
  rfl
theorem v_one (ha : a e m = .ok x m1) : eCall F (esCons a esNil) e m = F [x] m1 := v_call (v_cons ha v_nil)
theorem ix_at {xs : List D} {n : Nat} {j : Int} (h : m.get n = some (.lst xs)) (hd : ixD xs j = some d) : opIx (.ref n) (.int j) m = .ok d m := by
  show (match lstOf m n with | some xs => (match ixD xs j with | some d => R.ok d m | none => .bad) | none => .bad) = _
  have e : lstOf m n = some xs := by
    unfold lstOf
    rw [h]
  rw [e]
  show (match ixD xs j with | some d => R.ok d m | none => .bad) = _
  rw [hd]
theorem pen_ix {p q : Nat} {ns : List Int} {at_ g : Int} (h : Pen m p q ns at_ g) : opIx (.ref p) (.int 0) m = .ok (.ref q) m ∧ opIx (.ref p) (.int 1) m = .ok (.int at_) m ∧ opIx (.ref p) (.int 2) m = .ok (.int g) m :=
  ⟨ix_at h.at_ rfl, ix_at h.at_ rfl, ix_at h.at_ rfl⟩
end
section
variable {e e1 e2 : Lo} {m m1 m2 m3 : Mem} {x y d : D} {a b o i0 : E} {c c1 c2 : Sm} {t t1 t2 : Et} {r : RS} {xn : Xn} {ds : List D} {i n k : Nat} {j : Int} {ca : Es} {F : Fn} {bb : Bool} {xs : List D}
theorem s_set (ha : a e m = .ok d m1) : sSet i a e m = .nx (e.set i (some d)) m1 := by
  unfold sSet
  rw [ha]
  rfl
theorem s_seq (h : c1 e m = .nx e1 m1) : sSeq c1 c2 e m = c2 e1 m1 := by
  unfold sSeq
  rw [h]
  rfl
theorem s_seqR (h : c1 e m = .rt d m1) : sSeq c1 c2 e m = .rt d m1 := by
  unfold sSeq
  rw [h]
  rfl
theorem s_seqE (h : c1 e m = .err xn m1) : sSeq c1 c2 e m = .err xn m1 := by
  unfold sSeq
  rw [h]
  rfl
theorem s_ifT (h : t e m = .ok true m1) : sIf t c1 c2 e m = c1 e m1 := by
  unfold sIf
  rw [h]
  rfl
theorem s_ifF (h : t e m = .ok false m1) : sIf t c1 c2 e m = c2 e m1 := by
  unfold sIf
  rw [h]
  rfl
theorem s_ret (h : a e m = .ok d m1) : sRet a e m = .rt d m1 := by
  unfold sRet
  rw [h]
  rfl
theorem s_retE (h : a e m = .err xn m1) : sRet a e m = .err xn m1 := by
  unfold sRet
  rw [h]
  rfl
theorem s_expr (h : a e m = .ok d m1) : sExpr a e m = .nx e m1 := by
  unfold sExpr
  rw [h]
  rfl
theorem s_exprE (h : a e m = .err xn m1) : sExpr a e m = .err xn m1 := by
  unfold sExpr
  rw [h]
  rfl
theorem s_setE (h : a e m = .err xn m1) : sSet i a e m = .err xn m1 := by
  unfold sSet
  rw [h]
  rfl
theorem s_nil : sNil e m = .nx e m := rfl
theorem t_of (h : a e m = .ok (.bl bb) m1) : tOf a e m = .ok bb m1 := by
  unfold tOf
  rw [h]
  rfl
theorem t_val (h : a e m = .ok x m1) (h2 : truth x m1 = .ok bb m2) : tV a e m = .ok bb m2 := by
  unfold tV
  rw [h]
  exact h2
theorem t_not (h : t e m = .ok bb m1) : tNotM t e m = .ok (!bb) m1 := by
  unfold tNotM
  rw [h]
  rfl
theorem t_andF (h : t1 e m = .ok false m1) : tAndM t1 t2 e m = .ok false m1 := by
  unfold tAndM
  rw [h]
  rfl
theorem t_andT (h : t1 e m = .ok true m1) : tAndM t1 t2 e m = t2 e m1 := by
  unfold tAndM
  rw [h]
  rfl
theorem t_orT (h : t1 e m = .ok true m1) : tOrM t1 t2 e m = .ok true m1 := by
  unfold tOrM
  rw [h]
  rfl
theorem t_orF (h : t1 e m = .ok false m1) : tOrM t1 t2 e m = t2 e m1 := by
  unfold tOrM
  rw [h]
  rfl
theorem s_ix (ha : a e m = .ok d m1) (ho : o e m1 = .ok (.ref n) m2) (hi : i0 e m2 = .ok (.int j) m3) (hl : m3.get n = some (.lst xs)) (hk : ixN xs.length j = some k) : sAsg a (gIx o i0) e m = .nx e (m3.set n (.lst (xs.set k d))) := by
  unfold sAsg
  rw [ha]
  show gIx o i0 d e m1 = _
  unfold gIx
  rw [ho]
  show (i0 e m2).toS _ = _
  rw [hi]
  show (match m3.get n with
    | some (.lst xs) => (match ixN xs.length j with
      | some k => RS.nx e (m3.set n (.lst (xs.set k d)))
      | none => .bad)
    | _ => .bad) = _
  rw [hl]
  show (match ixN xs.length j with
      | some k => RS.nx e (m3.set n (.lst (xs.set k d)))
      | none => .bad) = _
  rw [hk]
theorem fn_rt {N : Nat} (h : c (ds.map some ++ List.replicate (N - ds.length) none) m = .rt d m1) : fnM N c ds m = .ok d m1 := by
  unfold fnM
  rw [h]
theorem fn_nx {N : Nat} (h : c (ds.map some ++ List.replicate (N - ds.length) none) m = .nx e m1) : fnM N c ds m = .ok .non m1 := by
  unfold fnM
  rw [h]
theorem fn_err {N : Nat} (h : c (ds.map some ++ List.replicate (N - ds.length) none) m = .err xn m1) : fnM N c ds m = .err xn m1 := by
  unfold fnM
  rw [h]
theorem v_fn (h : ca e m = .ok ds m1) (hl : Nat.beq ds.length n = true) : eFn F n [] ca e m = F ds m1 := by
  unfold eFn
  rw [h]
  show runF F n (ds ++ []) m1 = _
  rw [List.append_nil]
  unfold runF
  rw [hl]
end
theorem modG_pos {i j : Int} (h : 0 < j) : modG i j = some (i % j) := by
  unfold modG
  rw [decide_eq_true h]
theorem divG_pos {i j : Int} (h : 0 < j) (h2 : j < 1073741824) : divG i j = some (i / j) := by
  unfold divG
  rw [decide_eq_true h, decide_eq_true h2]
  rfl
/-! ### the draw -/
def gDraw (A B C : Int) : Sm := sSeq (sIf (tOf (eBin opGt (eBin opIx (eVar 0) (eC (.int 2))) (eC (.int 0)))) (sSeq (sSet 2 (eBin (intOp modG) (eCall fInt (esCons (eBin opIx (eVar 0) (eC (.int 2))) (esNil))) (eVar 1))) (sSeq (sAsg (eBin (intOp divG) (eCall fInt (esCons (eBin opIx (eVar 0) (eC (.int 2))) (esNil))) (eVar 1)) (gIx (eVar 0) (eC (.int 2)))) (sRet (eVar 2)))) (sNil)) (sSeq (sSet 3 (eBin opIx (eVar 0) (eC (.int 1)))) (sSeq (sAsg (eBin opAdd (eVar 3) (eC (.int 1))) (gIx (eVar 0) (eC (.int 1)))) (sSeq (sSet 4 (eBin opAdd (eBin opMul (eC (.int A)) (eVar 3)) (eC (.int B)))) (sSeq (sIf (tOf (eBin opNe (eBin opIx (eVar 0) (eC (.int 0))) (eLst (esNil)))) (sSet 4 (eBin opIx (eBin opIx (eVar 0) (eC (.int 0))) (eBin (intOp modG) (eCall fInt (esCons (eVar 3) (esNil))) (eCall fLen (esCons (eBin opIx (eVar 0) (eC (.int 0))) (esNil)))))) (sNil)) (sSeq (sIf (tAndM (tOf (eBin opLt (eVar 3) (eCall fLen (esCons (eBin opIx (eVar 0) (eC (.int 0))) (esNil))))) (tOf (eBin opGe (eCall fAbs (esCons (eVar 4) (esNil))) (eBin (intOp powG) (eC (.int 10)) (eC (.int 18)))))) (sSeq (sSet 5 (eBin opAdd (eBin opMul (eC (.int 2)) (eBin opSub (eCall fAbs (esCons (eVar 4) (esNil))) (eBin (intOp powG) (eC (.int 10)) (eC (.int 18))))) (eCall fInt (esCons (eBin opLt (eVar 4) (eC (.int 0))) (esNil))))) (sSeq (sAsg (eBin (intOp divG) (eCall fInt (esCons (eVar 5) (esNil))) (eVar 1)) (gIx (eVar 0) (eC (.int 2)))) (sRet (eBin (intOp modG) (eCall fInt (esCons (eVar 5) (esNil))) (eVar 1))))) (sNil)) (sSeq (sSet 6 (eBin (intOp modG) (eCall fInt (esCons (eBin (intOp powG) (eBin opAdd (eBin opAdd (eBin (intOp modG) (eCall fInt (esCons (eVar 4) (esNil))) (eC (.int 2147483563))) (eBin opMul (eC (.int C)) (eVar 3))) (eC (.int B))) (eC (.int 5))) (esNil))) (eC (.int 2147483647)))) (sSeq (sSet 6 (eBin (intOp modG) (eCall fInt (esCons (eBin (intOp powG) (eBin opAdd (eBin opAdd (eBin opMul (eVar 6) (eBin opAdd (eBin opMul (eC (.int 2)) (eVar 3)) (eC (.int 251)))) (eBin opMul (eBin opMul (eC (.int C)) (eVar 3)) (eVar 3))) (eC (.int 93))) (eC (.int 3))) (esNil))) (eC (.int 2147483587)))) (sRet (eBin (intOp modG) (eCall fInt (esCons (eBin (intOp divG) (eVar 6) (eC (.int 32))) (esNil))) (eVar 1))))))))))
theorem sh_ints (f : Nat) (m : Mem) : ∀ ns : List Int, (ns.map D.int).all (sh (f + 1) m) = true
  | [] => rfl
  | n :: r => by
    rw [List.map_cons, List.all_cons, sh_ints f m r]
    rfl
theorem eqAll_nil (g : D → D → Bool) : ∀ ns : List Int, eqAll g (ns.map D.int) [] = ns.isEmpty
  | [] => rfl
  | _ :: _ => rfl
theorem lstOf_lst {m : Mem} {n : Nat} {xs : List D} (h : m.get n = some (.lst xs)) : lstOf m n = some xs := by
  unfold lstOf
  rw [h]
/-- pen[0] != [] -/
theorem ne_nil {m : Mem} {q k : Nat} {ns : List Int} (h : m.get q = some (.lst (ns.map .int))) (hk : m.get k = some (.lst [])) : opNe (.ref q) (.ref k) m = .ok (.bl (!ns.isEmpty)) m := by
  have e1 : sh 64 m (.ref q) = true := by
    show (match lstOf m q with | some xs => xs.all (sh 63 m) | none => false) = true
    rw [lstOf_lst h]
    exact sh_ints 62 m ns
  have e2 : sh 64 m (.ref k) = true := by
    show (match lstOf m k with | some xs => xs.all (sh 63 m) | none => false) = true
    rw [lstOf_lst hk]
    rfl
  have e3 : eqd 64 m (.ref q) (.ref k) = ns.isEmpty := by
    show (match lstOf m q, lstOf m k with | some xs, some ys => eqAll (eqd 63 m) xs ys | _, _ => false) = _
    rw [lstOf_lst h, lstOf_lst hk]
    exact eqAll_nil _ ns
  unfold opNe eqG
  rw [e1, e2, e3]
  rfl
theorem mul_ok {i j : Int} {m : Mem} (h : small64 i = true) : Mi.opMul (D.int i) (D.int j) m = R.ok (D.int (i * j)) m := by
  show (match mulG i j with | some w => R.ok (D.int w) m | none => .bad) = _
  unfold mulG
  rw [h]
  rfl
theorem mul_ok' {i j : Int} {m : Mem} (h : small64 j = true) : Mi.opMul (D.int i) (D.int j) m = R.ok (D.int (i * j)) m := by
  show (match mulG i j with | some w => R.ok (D.int w) m | none => .bad) = _
  unfold mulG
  rw [h, Bool.or_true]
theorem add_ok {i j : Int} {m : Mem} : Mi.opAdd (D.int i) (D.int j) m = R.ok (D.int (i + j)) m := rfl
theorem sub_ok {i j : Int} {m : Mem} : Mi.opSub (D.int i) (D.int j) m = R.ok (D.int (i - j)) m := rfl
theorem mod_ok {i j : Int} {m : Mem} (h : 0 < j) : intOp modG (D.int i) (D.int j) m = R.ok (D.int (i % j)) m := by
  show (match modG i j with | some w => R.ok (D.int w) m | none => .bad) = _
  rw [modG_pos h]
theorem div_ok {i j : Int} {m : Mem} (h : 0 < j) (h2 : j < 1073741824) : intOp divG (D.int i) (D.int j) m = R.ok (D.int (i / j)) m := by
  show (match divG i j with | some w => R.ok (D.int w) m | none => .bad) = _
  rw [divG_pos h h2]
theorem pow_ok {i j : Int} {m : Mem} (h : 0 ≤ j) (h2 : j ≤ 1000000) (h3 : small64 i = true) : intOp powG (D.int i) (D.int j) m = R.ok (D.int (i ^ j.toNat)) m := by
  show (match powG i j with | some w => R.ok (D.int w) m | none => .bad) = _
  unfold powG
  rw [decide_eq_true h, decide_eq_true h2, h3]
  rfl
theorem small_of {i : Int} (h1 : -(2 ^ 64) < i) (h2 : i < 2 ^ 64) : small64 i = true := by
  unfold small64
  rw [decide_eq_true h1, decide_eq_true h2]
  rfl
end Mi
end

section
set_option Elab.async false
set_option linter.all false
set_option maxRecDepth 100000
set_option autoImplicit false
set_option maxHeartbeats 4000000
namespace Mi
open L2
section
variable {A B C : Int} {m : Mem} {p q : Nat} {ns : List Int} {a g many : Int}
theorem draw_great (h : Pen m p q ns a g) (hg : 0 < g) (hm : 1 ≤ many) (hm2 : many < 1000000) :
    fnM 7 (gDraw A B C) [.ref p, .int many] m = .ok (.int (g % many)) (m.set p (.lst [.ref q, .int a, .int (g / many)])) := by
  obtain ⟨i0, i1, i2⟩ := pen_ix h
  refine fn_rt ?_
  unfold gDraw
  have hgt : (D.int g, D.int 0) = (D.int g, D.int 0) := rfl
  have c0 : Mi.opGt (D.int g) (D.int 0) m = R.ok (D.bl true) m := by
    show R.ok (D.bl (decide (0 < g))) m = _
    rw [decide_eq_true hg]
  refine s_seqR ((s_ifT (t_of ((v_bin ((v_bin (v_var rfl) v_c).trans i2) v_c).trans c0))).trans ?_)
  refine (s_seq (s_set ((v_bin ((v_one ((v_bin (v_var rfl) v_c).trans i2)).trans rfl) (v_var rfl)).trans (mod_ok (by omega))))).trans ?_
  refine (s_seq (s_ix ((v_bin ((v_one ((v_bin (v_var rfl) v_c).trans i2)).trans rfl) (v_var rfl)).trans (div_ok (by omega) (by omega))) (v_var rfl) v_c h.at_ rfl)).trans ?_
  exact s_ret (v_var rfl)
/-- behind the first part: at is counted up -/
theorem draw_cell (h : Pen m p q ns a g) (hg : ¬ 0 < g) {r : RS} {c : Sm} (hc : c [some (.ref p), some (.int many), none, some (.int a), none, none, none] (m.set p (.lst [.ref q, .int (a + 1), .int g])) = r) :
    sSeq (sIf (tOf (eBin Mi.opGt (eBin opIx (eVar 0) (eC (.int 2))) (eC (.int 0)))) (sSeq (sSet 2 (eBin (intOp modG) (eCall fInt (esCons (eBin opIx (eVar 0) (eC (.int 2))) (esNil))) (eVar 1))) (sSeq (sAsg (eBin (intOp divG) (eCall fInt (esCons (eBin opIx (eVar 0) (eC (.int 2))) (esNil))) (eVar 1)) (gIx (eVar 0) (eC (.int 2)))) (sRet (eVar 2)))) (sNil))
      (sSeq (sSet 3 (eBin opIx (eVar 0) (eC (.int 1)))) (sSeq (sAsg (eBin Mi.opAdd (eVar 3) (eC (.int 1))) (gIx (eVar 0) (eC (.int 1)))) c)) [some (.ref p), some (.int many), none, none, none, none, none] m = r := by
  obtain ⟨i0, i1, i2⟩ := pen_ix h
  have c0 : Mi.opGt (D.int g) (D.int 0) m = R.ok (D.bl false) m := by
    show R.ok (D.bl (decide (0 < g))) m = _
    rw [decide_eq_false hg]
  refine (s_seq ((s_ifF (t_of ((v_bin ((v_bin (v_var rfl) v_c).trans i2) v_c).trans c0))).trans s_nil)).trans ?_
  refine (s_seq (s_set ((v_bin (v_var rfl) v_c).trans i1))).trans ?_
  exact (s_seq (s_ix (d := D.int (a + 1)) (j := 1) (k := 1) ((v_bin (x := D.int a) (v_var rfl) v_c).trans add_ok) (v_var rfl) v_c h.at_ rfl)).trans hc
/-- the cell that is read: d4 -/
theorem ixD_ints {ns : List Int} {j : Int} (h : ns ≠ []) : ∃ c, ixD (ns.map D.int) (j % (ns.length : Int)) = some (.int c) := by
  have hl : 0 < ns.length := List.length_pos_iff.mpr h
  have h1 : 0 ≤ j % (ns.length : Int) := Int.emod_nonneg _ (by omega)
  have h2 : j % (ns.length : Int) < ns.length := Int.emod_lt_of_pos _ (by omega)
  obtain ⟨k, hk⟩ := Int.eq_ofNat_of_zero_le h1
  rw [hk] at h2 ⊢
  have hk2 : k < ns.length := by omega
  refine ⟨ns[k], ?_⟩
  unfold ixD atI
  have e : ixN (ns.map D.int).length (k : Int) = some k := by
    unfold ixN
    simp [hk2]
  rw [e]
  simp [hk2]
def gTest : Et := tAndM (tOf (eBin Mi.opLt (eVar 3) (eCall fLen (esCons (eBin opIx (eVar 0) (eC (.int 0))) (esNil))))) (tOf (eBin Mi.opGe (eCall fAbs (esCons (eVar 4) (esNil))) (eBin (intOp powG) (eC (.int 10)) (eC (.int 18)))))
def gBig : Sm := sSeq (sSet 5 (eBin Mi.opAdd (eBin Mi.opMul (eC (.int 2)) (eBin Mi.opSub (eCall fAbs (esCons (eVar 4) (esNil))) (eBin (intOp powG) (eC (.int 10)) (eC (.int 18))))) (eCall fInt (esCons (eBin Mi.opLt (eVar 4) (eC (.int 0))) (esNil))))) (sSeq (sAsg (eBin (intOp divG) (eCall fInt (esCons (eVar 5) (esNil))) (eVar 1)) (gIx (eVar 0) (eC (.int 2)))) (sRet (eBin (intOp modG) (eCall fInt (esCons (eVar 5) (esNil))) (eVar 1))))
def gSmall (B C : Int) : Sm := sSeq (sSet 6 (eBin (intOp modG) (eCall fInt (esCons (eBin (intOp powG) (eBin Mi.opAdd (eBin Mi.opAdd (eBin (intOp modG) (eCall fInt (esCons (eVar 4) (esNil))) (eC (.int 2147483563))) (eBin Mi.opMul (eC (.int C)) (eVar 3))) (eC (.int B))) (eC (.int 5))) (esNil))) (eC (.int 2147483647)))) (sSeq (sSet 6 (eBin (intOp modG) (eCall fInt (esCons (eBin (intOp powG) (eBin Mi.opAdd (eBin Mi.opAdd (eBin Mi.opMul (eVar 6) (eBin Mi.opAdd (eBin Mi.opMul (eC (.int 2)) (eVar 3)) (eC (.int 251)))) (eBin Mi.opMul (eBin Mi.opMul (eC (.int C)) (eVar 3)) (eVar 3))) (eC (.int 93))) (eC (.int 3))) (esNil))) (eC (.int 2147483587)))) (sRet (eBin (intOp modG) (eCall fInt (esCons (eBin (intOp divG) (eVar 6) (eC (.int 32))) (esNil))) (eVar 1))))
section
variable {c : Int} {o1 o2 o3 : Option D}
abbrev dSl (p : Nat) (many a c : Int) (o1 o2 o3 : Option D) : Lo := [some (.ref p), some (.int many), o1, some (.int a), some (.int c), o2, o3]
theorem small_ok (hC0 : 0 ≤ C) (hC : C < 1000000) (hB : 0 ≤ B) (hB2 : B < 1000000) (ha : 0 ≤ a) (ha2 : a < 1000000) (hm : 1 ≤ many) : ∃ d, gSmall B C (dSl p many a c o1 o2 o3) m = .rt (.int d) m ∧ 0 ≤ d ∧ d < many := by
  have hca : 0 ≤ C * a ∧ C * a ≤ 1000000 * 1000000 := ⟨Int.mul_nonneg hC0 ha, Int.mul_le_mul (by omega) (by omega) ha (by omega)⟩
  have hcaa : 0 ≤ C * a * a ∧ C * a * a ≤ 1000000 * 1000000 * 1000000 := ⟨Int.mul_nonneg hca.1 ha, Int.mul_le_mul hca.2 (by omega) ha (by omega)⟩
  have b1 : 0 ≤ c % 2147483563 ∧ c % 2147483563 < 2147483563 := ⟨Int.emod_nonneg _ (by decide), Int.emod_lt_of_pos _ (by decide)⟩
  generalize hx : ((c % 2147483563 + C * a + B) ^ 5) % 2147483647 = x
  have b2 : 0 ≤ x ∧ x < 2147483647 := by
    rw [← hx]
    exact ⟨Int.emod_nonneg _ (by decide), Int.emod_lt_of_pos _ (by decide)⟩
  have b3 : 0 ≤ x * (2 * a + 251) ∧ x * (2 * a + 251) ≤ 2147483647 * 2000251 := ⟨Int.mul_nonneg b2.1 (by omega), Int.mul_le_mul (by omega) (by omega) (by omega) (by decide)⟩
  generalize hy : ((x * (2 * a + 251) + C * a * a + 93) ^ 3) % 2147483587 = y
  refine ⟨(y / 32) % many, ?_, Int.emod_nonneg _ (by omega), Int.emod_lt_of_pos _ (by omega)⟩
  unfold gSmall
  refine (s_seq (s_set (m1 := m) (d := D.int x) ?_)).trans ?_
  · refine (v_bin ((v_one ((v_bin ((v_bin ((v_bin ((v_bin ((v_one (v_var rfl)).trans rfl) v_c).trans (mod_ok (by decide))) ((v_bin v_c (v_var rfl)).trans (mul_ok (small_of (by omega) (by omega))))).trans add_ok) v_c).trans add_ok) v_c).trans (pow_ok (by decide) (by decide) (small_of (by omega) (by omega))))).trans rfl) v_c).trans ((mod_ok (by decide)).trans ?_)
    show R.ok (D.int (((c % 2147483563 + C * a + B) ^ 5) % 2147483647)) m = _
    rw [hx]
  refine (s_seq (s_set (m1 := m) (d := D.int y) ?_)).trans ?_
  · refine (v_bin ((v_one ((v_bin ((v_bin ((v_bin ((v_bin (v_var rfl) ((v_bin ((v_bin v_c (v_var rfl)).trans (mul_ok (by decide))) v_c).trans add_ok)).trans (mul_ok (small_of (by omega) (by omega)))) ((v_bin ((v_bin v_c (v_var rfl)).trans (mul_ok (small_of (by omega) (by omega)))) (v_var rfl)).trans (mul_ok' (small_of (by omega) (by omega))))).trans add_ok) v_c).trans add_ok) v_c).trans (pow_ok (by decide) (by decide) (small_of (by omega) (by omega))))).trans rfl) v_c).trans ((mod_ok (by decide)).trans ?_)
    show R.ok (D.int (((x * (2 * a + 251) + C * a * a + 93) ^ 3) % 2147483587)) m = _
    rw [hy]
  exact s_ret ((v_bin ((v_one ((v_bin (v_var rfl) v_c).trans (div_ok (by decide) (by decide)))).trans rfl) (v_var rfl)).trans (mod_ok (by omega)))
theorem pow_18 {e : Lo} : (eBin (intOp powG) (eC (.int 10)) (eC (.int 18))) e m = .ok (.int (10 ^ 18)) m := (v_bin v_c v_c).trans (pow_ok (by decide) (by decide) (by decide))
theorem big_ok (h : Pen m p q ns (a + 1) g) (hbig : 10 ^ 18 ≤ (if c < 0 then -c else c)) (hm : 1 ≤ many) (hm2 : many < 1000000) :
    ∃ d g', gBig (dSl p many a c o1 o2 o3) m = .rt (.int d) (m.set p (.lst [.ref q, .int (a + 1), .int g'])) ∧ 0 ≤ d ∧ d < many ∧ 0 ≤ g' := by
  have hlt : (eCall fInt (esCons (eBin Mi.opLt (eVar 4) (eC (.int 0))) (esNil))) (dSl p many a c o1 o2 o3) m = .ok (.int (if decide (c < 0) = true then 1 else 0)) m := (v_one ((v_bin (v_var rfl) v_c).trans rfl)).trans rfl
  have hz : 0 ≤ (if decide (c < 0) = true then (1 : Int) else 0) := by
    split <;> decide
  generalize (if decide (c < 0) = true then (1 : Int) else 0) = z at hlt hz
  generalize ht : 2 * ((if c < 0 then -c else c) - 10 ^ 18) + z = t
  have ht0 : 0 ≤ t := by omega
  refine ⟨t % many, t / many, ?_, Int.emod_nonneg _ (by omega), Int.emod_lt_of_pos _ (by omega), Int.ediv_nonneg ht0 (by omega)⟩
  unfold gBig
  refine (s_seq (s_set (m1 := m) (d := D.int t) ?_)).trans ?_
  · refine (v_bin ((v_bin v_c ((v_bin ((v_one (v_var rfl)).trans rfl) pow_18).trans sub_ok)).trans (mul_ok (by decide))) hlt).trans (add_ok.trans ?_)
    rw [ht]
  refine (s_seq (s_ix (d := D.int (t / many)) (j := 2) (k := 2) ((v_bin ((v_one (v_var rfl)).trans rfl) (v_var rfl)).trans (div_ok (by omega) (by omega))) (v_var rfl) v_c h.at_ rfl)).trans ?_
  exact s_ret ((v_bin ((v_one (v_var rfl)).trans rfl) (v_var rfl)).trans (mod_ok (by omega)))
theorem rest_ok (hC0 : 0 ≤ C) (hC : C < 1000000) (hB : 0 ≤ B) (hB2 : B < 1000000) (h : Pen m p q ns (a + 1) g) (ha : 0 ≤ a) (ha2 : a < 1000000) (hm : 1 ≤ many) (hm2 : many < 1000000) :
    ∃ d g' m', sSeq (sIf gTest gBig sNil) (gSmall B C) (dSl p many a c o1 o2 o3) m = .rt (.int d) m' ∧ 0 ≤ d ∧ d < many ∧ Pen m' p q ns (a + 1) g' ∧ Kept m m' p := by
  obtain ⟨i0, i1, i2⟩ := pen_ix h
  have hlen : (eCall fLen (esCons (eBin opIx (eVar 0) (eC (.int 0))) (esNil))) (dSl p many a c o1 o2 o3) m = .ok (.int ns.length) m := by
    refine (v_one ((v_bin (v_var rfl) v_c).trans i0)).trans ?_
    show (match m.get q with
      | some (.lst xs) => R.ok (D.int xs.length) m
      | some (.frz xs) => .ok (D.int xs.length) m
      | some (.dic kvs) => .ok (D.int kvs.length) m
      | _ => .bad) = _
    rw [h.sc]
    show R.ok (D.int ((ns.map D.int).length : Int)) m = _
    rw [List.length_map]
  have t1 : (tOf (eBin Mi.opLt (eVar 3) (eCall fLen (esCons (eBin opIx (eVar 0) (eC (.int 0))) (esNil))))) (dSl p many a c o1 o2 o3) m = .ok (decide (a < ns.length)) m := t_of ((v_bin (v_var rfl) hlen).trans rfl)
  have t2 : (tOf (eBin Mi.opGe (eCall fAbs (esCons (eVar 4) (esNil))) (eBin (intOp powG) (eC (.int 10)) (eC (.int 18))))) (dSl p many a c o1 o2 o3) m = .ok (decide (10 ^ 18 ≤ (if c < 0 then -c else c))) m := t_of ((v_bin ((v_one (v_var rfl)).trans rfl) pow_18).trans rfl)
  have small : ∀ hf : gTest (dSl p many a c o1 o2 o3) m = .ok false m, ∃ d g' m', sSeq (sIf gTest gBig sNil) (gSmall B C) (dSl p many a c o1 o2 o3) m = .rt (.int d) m' ∧ 0 ≤ d ∧ d < many ∧ Pen m' p q ns (a + 1) g' ∧ Kept m m' p := fun hf => by
    obtain ⟨d, e, d1, d2⟩ := small_ok (m := m) (p := p) (c := c) (o1 := o1) (o2 := o2) (o3 := o3) hC0 hC hB hB2 ha ha2 hm
    exact ⟨d, g, m, (s_seq ((s_ifF hf).trans s_nil)).trans e, d1, d2, h, Kept.refl _ _⟩
  by_cases c1 : a < ns.length
  · rw [decide_eq_true c1] at t1
    have t3 := (t_andT (t2 := tOf (eBin Mi.opGe (eCall fAbs (esCons (eVar 4) (esNil))) (eBin (intOp powG) (eC (.int 10)) (eC (.int 18))))) t1).trans t2
    by_cases c2 : 10 ^ 18 ≤ (if c < 0 then -c else c)
    · rw [decide_eq_true c2] at t3
      obtain ⟨d, g', e, d1, d2, d3⟩ := big_ok (o1 := o1) (o2 := o2) (o3 := o3) h c2 hm hm2
      exact ⟨d, g', _, s_seqR ((s_ifT t3).trans e), d1, d2, h.set (by have := h.a0; omega) d3, Kept.set _ _ _⟩
    · rw [decide_eq_false c2] at t3
      exact small t3
  · rw [decide_eq_false c1] at t1
    exact small (t_andF t1)
end
end
end Mi
end

section
set_option Elab.async false
set_option linter.all false
set_option maxRecDepth 100000
set_option autoImplicit false
set_option maxHeartbeats 4000000
namespace Mi
open L2
section
variable {A B C : Int} {m : Mem} {p q : Nat} {ns : List Int} {a g many : Int}
theorem mid_ok (hA0 : 0 ≤ A) (hA : A < 1000000) (h : Pen m p q ns (a + 1) g) (ha : 0 ≤ a) (rest : Sm) :
    ∃ c, sSeq (sSet 4 (eBin Mi.opAdd (eBin Mi.opMul (eC (.int A)) (eVar 3)) (eC (.int B)))) (sSeq (sIf (tOf (eBin Mi.opNe (eBin opIx (eVar 0) (eC (.int 0))) (eLst (esNil)))) (sSet 4 (eBin opIx (eBin opIx (eVar 0) (eC (.int 0))) (eBin (intOp modG) (eCall fInt (esCons (eVar 3) (esNil))) (eCall fLen (esCons (eBin opIx (eVar 0) (eC (.int 0))) (esNil)))))) (sNil)) rest)
      [some (.ref p), some (.int many), none, some (.int a), none, none, none] m = rest (dSl p many a c none none none) (m.new (.lst [])) := by
  obtain ⟨i0, i1, i2⟩ := pen_ix h
  have h2 := h.new (.lst [])
  obtain ⟨j0, j1, j2⟩ := pen_ix h2
  have e1 : sSet 4 (eBin Mi.opAdd (eBin Mi.opMul (eC (.int A)) (eVar 3)) (eC (.int B))) [some (.ref p), some (.int many), none, some (.int a), none, none, none] m = .nx (dSl p many a (A * a + B) none none none) m :=
    s_set (d := D.int (A * a + B)) ((v_bin ((v_bin v_c (v_var rfl)).trans (mul_ok (small_of (by omega) (by omega)))) v_c).trans add_ok)
  have e2 : (tOf (eBin Mi.opNe (eBin opIx (eVar 0) (eC (.int 0))) (eLst (esNil)))) (dSl p many a (A * a + B) none none none) m = .ok (!ns.isEmpty) (m.new (.lst [])) := by
    refine t_of ((v_bin (m1 := m) (m2 := m.new (.lst [])) (x := D.ref q) (y := D.ref m.next) ((v_bin (v_var rfl) v_c).trans i0) rfl).trans ?_)
    exact ne_nil h2.sc (by rw [Mem.get_new, if_pos rfl])
  cases hn : ns.isEmpty with
  | true =>
    rw [hn] at e2
    exact ⟨A * a + B, (s_seq e1).trans ((s_seq ((s_ifF e2).trans s_nil)))⟩
  | false =>
    rw [hn] at e2
    have hne : ns ≠ [] := fun z => by
      rw [z] at hn
      cases hn
    obtain ⟨c, hc⟩ := ixD_ints (j := a) hne
    have hlen : (eCall fLen (esCons (eBin opIx (eVar 0) (eC (.int 0))) (esNil))) (dSl p many a (A * a + B) none none none) (m.new (.lst [])) = .ok (.int ns.length) (m.new (.lst [])) := by
      refine (v_one ((v_bin (v_var rfl) v_c).trans j0)).trans ?_
      show (match (m.new (.lst [])).get q with
        | some (.lst xs) => R.ok (D.int xs.length) (m.new (.lst []))
        | some (.frz xs) => .ok (D.int xs.length) (m.new (.lst []))
        | some (.dic kvs) => .ok (D.int kvs.length) (m.new (.lst []))
        | _ => .bad) = _
      rw [h2.sc]
      show R.ok (D.int ((ns.map D.int).length : Int)) _ = _
      rw [List.length_map]
    have hl : 0 < ns.length := List.length_pos_iff.mpr hne
    refine ⟨c, (s_seq e1).trans (s_seq ((s_ifT e2).trans (s_set (m1 := m.new (.lst [])) (d := D.int c) ?_)))⟩
    exact (v_bin ((v_bin (v_var rfl) v_c).trans j0) ((v_bin ((v_one (v_var rfl)).trans rfl) hlen).trans (mod_ok (by omega)))).trans (ix_at h2.sc hc)
/-- THE DRAW: a digit, the pen stays a pen -/
theorem draw_ok (hA0 : 0 ≤ A) (hA : A < 1000000) (hB0 : 0 ≤ B) (hB : B < 1000000) (hC0 : 0 ≤ C) (hC : C < 1000000) (h : Pen m p q ns a g) (ha : a < 1000000) (hm : 1 ≤ many) (hm2 : many < 1000000) :
    ∃ d a' g' m', fnM 7 (gDraw A B C) [.ref p, .int many] m = .ok (.int d) m' ∧ 0 ≤ d ∧ d < many ∧ Pen m' p q ns a' g' ∧ a' ≤ a + 1 ∧ Kept m m' p := by
  by_cases hg : 0 < g
  · exact ⟨g % many, a, g / many, _, draw_great h hg hm hm2, Int.emod_nonneg _ (by omega), Int.emod_lt_of_pos _ (by omega), h.set h.a0 (Int.ediv_nonneg (by omega) (by omega)), by omega, Kept.set _ _ _⟩
  · have h1 : Pen (m.set p (.lst [.ref q, .int (a + 1), .int g])) p q ns (a + 1) g := h.set (by have := h.a0; omega) h.g0
    obtain ⟨c, hc⟩ := mid_ok (B := B) (many := many) hA0 hA h1 h.a0 (sSeq (sIf gTest gBig sNil) (gSmall B C))
    obtain ⟨d, g', m', e, d1, d2, hp, hk⟩ := rest_ok (B := B) (C := C) (c := c) (o1 := none) (o2 := none) (o3 := none) hC0 hC hB0 hB (h1.new (.lst [])) h.a0 ha hm hm2
    refine ⟨d, a + 1, g', m', fn_rt ?_, d1, d2, hp, by omega, ((Kept.set m p _).trans (Kept.new _ p _)).trans hk⟩
    exact (draw_cell (c := _) h hg rfl).trans (hc.trans e)
end
end Mi
end

section
set_option Elab.async false
set_option linter.all false
set_option maxRecDepth 100000
set_option autoImplicit false
set_option maxHeartbeats 4000000
namespace Mi
open L2
/-- what a law's draw does -/
def DrawOk (F : Fn) : Prop := ∀ {m : Mem} {p q : Nat} {ns : List Int} {a g many : Int}, Pen m p q ns a g → a < 1000000 → 1 ≤ many → many < 1000000 →
  ∃ d a' g' m', F [.ref p, .int many] m = .ok (.int d) m' ∧ 0 ≤ d ∧ d < many ∧ Pen m' p q ns a' g' ∧ a' ≤ a + 1 ∧ Kept m m' p
def gPick (F : Fn) : Sm := sRet (eBin opIx (eVar 1) (eFn F 2 [] (esCons (eVar 0) (esCons (eCall fLen (esCons (eVar 1) (esNil))) (esNil)))))
section
variable {F : Fn} {m : Mem} {p q k : Nat} {ns : List Int} {a g : Int} {xs : List D}
theorem ixD_mem {i : Int} (h0 : 0 ≤ i) (h1 : i < xs.length) : ∃ d ∈ xs, ixD xs i = some d := by
  obtain ⟨k, hk⟩ := Int.eq_ofNat_of_zero_le h0
  rw [hk] at h1 ⊢
  have hk2 : k < xs.length := by omega
  refine ⟨xs[k], List.getElem_mem hk2, ?_⟩
  unfold ixD atI
  have e : ixN xs.length (k : Int) = some k := by
    unfold ixN
    simp [hk2]
  rw [e]
  simp [hk2]
/-- _law_pick on a list -/
theorem pick_list (hF : DrawOk F) (h : Pen m p q ns a g) (ha : a < 1000000) (hk : m.get k = some (.lst xs)) (hkp : k ≠ p) (hkn : k < m.next) (hx : xs ≠ []) (hl : xs.length < 1000000) :
    ∃ d a' g' m', fnM 2 (gPick F) [.ref p, .ref k] m = .ok d m' ∧ d ∈ xs ∧ Pen m' p q ns a' g' ∧ a' ≤ a + 1 ∧ Kept m m' p := by
  have hp : 0 < xs.length := List.length_pos_iff.mpr hx
  obtain ⟨i, a', g', m', e, d0, d1, hp', ha', kk⟩ := hF (many := (xs.length : Int)) h ha (by omega) (by omega)
  obtain ⟨d, hd, e2⟩ := ixD_mem (xs := xs) d0 d1
  refine ⟨d, a', g', m', fn_rt (s_ret ?_), hd, hp', ha', kk⟩
  refine (v_bin (x := D.ref k) (y := D.int i) (m1 := m) (m2 := m') (v_var rfl) ?_).trans (ix_at (by rw [kk.get k hkn hkp]; exact hk) e2)
  refine (v_fn (ds := [D.ref p, D.int xs.length]) (m1 := m) (v_cons (v_var rfl) (v_cons ((v_one (v_var rfl)).trans ?_) v_nil)) rfl).trans e
  show (match m.get k with
    | some (.lst xs) => R.ok (D.int xs.length) m
    | some (.frz xs) => .ok (D.int xs.length) m
    | some (.dic kvs) => .ok (D.int kvs.length) m
    | _ => .bad) = _
  rw [hk]
/-- _law_pick(pen, [..]) written in place: the list is new -/
theorem pick_new {e : Lo} {cs : Es} {ds : List D} {i : Nat} (hF : DrawOk F) (he : e[i]? = some (some (.ref p))) (h : Pen m p q ns a g) (ha : a < 1000000) {m1 : Mem} (hc : cs e m = .ok ds m1) (h1 : Pen m1 p q ns a g) (hkk : Kept m m1 p) (hx : ds ≠ []) (hl : ds.length < 1000000) :
    ∃ d a' g' m', eFn (fnM 2 (gPick F)) 2 [] (esCons (eVar i) (esCons (eLst cs) (esNil))) e m = .ok d m' ∧ d ∈ ds ∧ Pen m' p q ns a' g' ∧ a' ≤ a + 1 ∧ Kept m m' p := by
  have h2 := h1.new (.lst ds)
  have k2 := hkk.trans (Kept.new m1 p (.lst ds))
  obtain ⟨d, a', g', m', e1, hd, hp', ha', kk⟩ := pick_list (k := m1.next) hF h2 ha (by rw [Mem.get_new, if_pos rfl]) (Nat.ne_of_gt h1.lp) (Nat.lt_succ_self _) hx hl
  refine ⟨d, a', g', m', ?_, hd, hp', ha', k2.trans kk⟩
  refine (v_fn (ds := [D.ref p, D.ref m1.next]) (m1 := m1.new (.lst ds)) (v_cons (v_var he) (v_cons (m1 := m1.new (.lst ds)) ?_ v_nil)) rfl).trans e1
  unfold eLst
  rw [hc]
  show (match lineOk ds.length with
    | true => R.ok (D.ref m1.next) (m1.new (.lst ds))
    | false => .bad) = _
  have q : lineOk ds.length = true := by
    unfold lineOk
    exact Nat.ble_eq_true_of_le (by omega)
  rw [q]
end
/-! ### lists of constants -/
def cns : List D → Es
  | [] => esNil
  | d :: r => esCons (eC d) (cns r)
theorem cns_ok {e : Lo} {m : Mem} : ∀ ds : List D, cns ds e m = .ok ds m
  | [] => rfl
  | d :: r => v_cons v_c (cns_ok r)
/-! ### a comprehension over range(n) whose element always comes -/
theorem lc_range {e0 : Lo} {el : E} {v : Nat} {P : Mem → Int → Prop} {G : D → Prop} {p k : Nat} (n : Nat) (hn : n < 100000) (hkp : k ≠ p) (hel : ∀ (m : Mem) (a : Int) (j : Int), P m a → a < 1000000 → ∃ d a' m', el ((wipeL e0 [v]).set v (some (.int j))) m = .ok d m' ∧ G d ∧ P m' a' ∧ a' ≤ a + 1 ∧ Kept m m' p)
    (hset : ∀ (m : Mem) (a : Int) (o : Ob), P m a → P (m.set k o) a) :
    ∀ (f i : Nat) (m : Mem) (a : Int) (acc : List D), i + f = n → P m a → a + f < 1000000 → m.get k = some (.lst acc) → k < m.next → acc.length + f < 1000000 → (∀ d ∈ acc, G d) →
      ∃ ds a' m', eLCl (f + 1) k i (itRng 0 n) (.one v) tYesM el (wipeL e0 [v]) m = .ok (.ref k) m' ∧ m'.get k = some (.lst ds) ∧ (∀ d ∈ ds, G d) ∧ ds.length = acc.length + f ∧ P m' a' ∧ a' ≤ a + f ∧ m.next ≤ m'.next ∧ ∀ j, j < m.next → j ≠ p → j ≠ k → m'.get j = m.get j := by
  intro f
  induction f with
  | zero =>
    intro i m a acc h hP _ hk hkn _ hG
    refine ⟨acc, a, m, ?_, hk, hG, rfl, hP, by omega, Nat.le_refl _, fun _ _ _ _ => rfl⟩
    show (match (itRng 0 n i m) with
      | none => R.bad
      | some none => .ok (D.ref k) m
      | some (some d) => _) = _
    have e : itRng 0 n i m = some none := by
      unfold itRng
      have q : Nat.blt i n = false := by
        unfold Nat.blt
        cases z : Nat.ble (i + 1) n with
        | false => rfl
        | true =>
          have := Nat.le_of_ble_eq_true z
          omega
      rw [q]
    rw [e]
  | succ f ih =>
    intro i m a acc h hP ha hk hkn hl hG
    have e : itRng 0 n i m = some (some (.int (0 + (i : Int)))) := by
      unfold itRng
      have q : Nat.blt i n = true := by
        unfold Nat.blt
        exact Nat.ble_eq_true_of_le (by omega)
      rw [q]
    obtain ⟨d, a1, m1, e1, g1, p1, q1, k1⟩ := hel m a (0 + (i : Int)) hP (by omega)
    have hk1 : m1.get k = some (.lst acc) := by rw [k1.get k hkn hkp]; exact hk
    obtain ⟨ds, a2, m2, e2, r1, r2, r3, r4, r5, r6, r7⟩ := ih (i + 1) (m1.set k (.lst (acc ++ [d]))) a1 (acc ++ [d]) (by omega) (hset m1 a1 _ p1) (by omega) (by rw [Mem.get_set, if_pos rfl]) (Nat.lt_of_lt_of_le hkn k1.next) (by rw [List.length_append]; show acc.length + 1 + f < _; omega)
      (fun z hz => by
        rcases List.mem_append.mp hz with hz | hz
        · exact hG z hz
        · rw [List.mem_singleton.mp hz]
          exact g1)
    refine ⟨ds, a2, m2, ?_, r1, r2, by rw [r3, List.length_append]; show acc.length + 1 + f = _; omega, r4, by omega, Nat.le_trans k1.next r6, fun j hj h1 h2 => ?_⟩
    · show (match (itRng 0 n i m) with
        | none => R.bad
        | some none => .ok (D.ref k) m
        | some (some d) => (match setT (.one v) d (wipeL e0 [v]) with
          | none => .bad
          | some e1 => (noErr (tYesM e1 m)).bind fun kk m1 => match kk with
            | false => eLCl (f + 1) k (i + 1) (itRng 0 n) (.one v) tYesM el (wipeL e0 [v]) m1
            | true => (noErr (el e1 m1)).bind fun y m2 => match m2.get k with
              | some (.lst acc) => (match lineOk (acc.length + 1) with
                | true => eLCl (f + 1) k (i + 1) (itRng 0 n) (.one v) tYesM el (wipeL e0 [v]) (m2.set k (.lst (acc ++ [y])))
                | false => .bad)
              | _ => .bad)) = _
      rw [e]
      show (noErr (el ((wipeL e0 [v]).set v (some (.int (0 + (i : Int))))) m)).bind _ = _
      rw [e1]
      show (match m1.get k with
        | some (.lst acc) => (match lineOk (acc.length + 1) with
          | true => eLCl (f + 1) k (i + 1) (itRng 0 n) (.one v) tYesM el (wipeL e0 [v]) (m1.set k (.lst (acc ++ [d])))
          | false => .bad)
        | _ => .bad) = _
      rw [hk1]
      show (match lineOk (acc.length + 1) with
          | true => eLCl (f + 1) k (i + 1) (itRng 0 n) (.one v) tYesM el (wipeL e0 [v]) (m1.set k (.lst (acc ++ [d])))
          | false => .bad) = _
      have q : lineOk (acc.length + 1) = true := by
        unfold lineOk
        exact Nat.ble_eq_true_of_le (by omega)
      rw [q]
      exact e2
    · rw [r7 j (Nat.lt_of_lt_of_le hj k1.next) h1 h2, Mem.get_set, if_neg h2]
      exact k1.get j hj h1
end Mi
end

section
set_option Elab.async false
set_option linter.all false
set_option maxRecDepth 100000
set_option autoImplicit false
set_option maxHeartbeats 4000000
/-! Attributes, methods, instances, evaluated. -/
namespace Mi
open L2
section
variable {e : Lo} {m m1 m2 m3 m4 : Mem} {x y d w z : D} {a o v : E} {cs : List Nat} {f n c cid mid : Nat} {fs : List (Nat × D)} {F : Fn} {ca : Es} {ds dds : List D} {op : D → D → Mem → R D} {xn : Xn}
theorem insOf_at (h : m.get n = some (.ins c fs)) : insOf m n = some (c, fs) := by
  unfold insOf
  rw [h]
theorem getF_ok (hm : m.get n = some (.ins c fs)) (hc : cs.any (Nat.beq c) = true) (hl : fs.lookup f = some d) : getF f cs (.ref n) m = .ok d m := by
  show (match insOf m n with
    | some (c, fs) => (match cs.any (Nat.beq c) with
      | true => (match fs.lookup f with
        | some d => R.ok d m
        | none => .bad)
      | false => .bad)
    | none => .bad) = _
  rw [insOf_at hm]
  show (match cs.any (Nat.beq c) with
      | true => (match fs.lookup f with
        | some d => R.ok d m
        | none => .bad)
      | false => .bad) = _
  rw [hc]
  show (match fs.lookup f with
        | some d => R.ok d m
        | none => .bad) = _
  rw [hl]
theorem v_fld (ho : o e m = .ok (.ref n) m1) (hm : m1.get n = some (.ins c fs)) (hc : cs.any (Nat.beq c) = true) (hl : fs.lookup f = some d) : eFld f cs o e m = .ok d m1 := by
  unfold eFld
  rw [ho]
  exact getF_ok hm hc hl
theorem v_meth (ho : o e m = .ok (.ref n) m1) (hm : m1.get n = some (.ins cid fs)) (hl : fs.lookup mid = none) (hc : ca e m1 = .ok ds m2) {k : Nat} (hk : Nat.beq (D.ref n :: ds).length k = true) : eMeth cid mid F k [] o ca e m = F (.ref n :: ds) m2 := by
  unfold eMeth
  rw [ho]
  show (match insOf m1 n with
    | some (cl, fs) => (match Nat.beq cl cid with
      | true => (match fs.lookup mid with
        | none => (ca e m1).bind fun ds m2 => runF F k (.ref n :: (ds ++ [])) m2
        | some _ => .bad)
      | false => .bad)
    | none => .bad) = _
  rw [insOf_at hm]
  show (match Nat.beq cid cid with
      | true => (match fs.lookup mid with
        | none => (ca e m1).bind fun ds m2 => runF F k (.ref n :: (ds ++ [])) m2
        | some _ => .bad)
      | false => .bad) = _
  rw [Nat.beq_refl]
  show (match fs.lookup mid with
        | none => (ca e m1).bind fun ds m2 => runF F k (.ref n :: (ds ++ [])) m2
        | some _ => .bad) = _
  rw [hl, hc]
  show runF F k (.ref n :: (ds ++ [])) m2 = _
  rw [List.append_nil]
  unfold runF
  rw [hk]
theorem setF_ok (hm : m.get n = some (.ins c fs)) (hc : (cs.any (Nat.beq c) && Nat.blt fs.length 900) = true) : setF f cs (.ref n) d m = some (m.set n (.ins c (putM f d fs))) := by
  show (match insOf m n with
    | some (c, fs) => (match cs.any (Nat.beq c) && Nat.blt fs.length 900 with
      | true => some (m.set n (.ins c (putM f d fs)))
      | false => none)
    | none => none) = _
  rw [insOf_at hm]
  show (match cs.any (Nat.beq c) && Nat.blt fs.length 900 with
      | true => some (m.set n (.ins c (putM f d fs)))
      | false => none) = _
  rw [hc]
theorem s_fld (hv : v e m = .ok d m1) (ho : o e m1 = .ok (.ref n) m2) (hm : m2.get n = some (.ins c fs)) (hc : (cs.any (Nat.beq c) && Nat.blt fs.length 900) = true) : sFldM f cs o v e m = .nx e (m2.set n (.ins c (putM f d fs))) := by
  unfold sFldM
  rw [hv]
  show (o e m1).toS _ = _
  rw [ho]
  show (match setF f cs (.ref n) d m2 with
    | some m3 => RS.nx e m3
    | none => .bad) = _
  rw [setF_ok hm hc]
theorem s_fldaug (ho : o e m = .ok (.ref n) m1) (hm : m1.get n = some (.ins c fs)) (hc : cs.any (Nat.beq c) = true) (hl : fs.lookup f = some w) (hv : v e m1 = .ok d m2) (hop : op w d m2 = .ok z m3) (hm3 : m3.get n = some (.ins c fs)) (hb : Nat.blt fs.length 900 = true) :
    sFldAugM f cs op o v e m = .nx e (m3.set n (.ins c (putM f z fs))) := by
  unfold sFldAugM
  rw [ho]
  show (getF f cs (.ref n) m1).toS _ = _
  rw [getF_ok hm hc hl]
  show (v e m1).toS _ = _
  rw [hv]
  show (op w d m2).toS _ = _
  rw [hop]
  have e1 : clsAt (.ref n) m1 = [c] := by
    show (match insOf m1 n with
      | some (c, _) => [c]
      | none => []) = _
    rw [insOf_at hm]
  show (match setF f (clsAt (.ref n) m1) (.ref n) z m3 with
    | some m5 => RS.nx e m5
    | none => .bad) = _
  rw [e1, setF_ok hm3 (by
    rw [hb, Bool.and_true]
    show (Nat.beq c c || false) = true
    rw [Nat.beq_refl]
    rfl)]
theorem v_make (hc : ca e m = .ok ds m1) {k : Nat} (hk : Nat.beq (D.ref m1.next :: (ds ++ dds)).length k = true) (hF : F (.ref m1.next :: (ds ++ dds)) (m1.new (.ins cid [])) = .ok .non m2) : eMake cid F k dds ca e m = .ok (.ref m1.next) m2 := by
  unfold eMake
  rw [hc]
  show (runF F k (.ref m1.next :: (ds ++ dds)) (m1.new (.ins cid []))).bind _ = _
  unfold runF
  rw [hk]
  show (F (.ref m1.next :: (ds ++ dds)) (m1.new (.ins cid []))).bind _ = _
  rw [hF]
  rfl
theorem s_raise2 {g : Nat} (hc : ca e m = .ok [x, y] m1) : sRaise2 cid f g ca e m = .err ⟨cid, [(g, y), (f, x)]⟩ m1 := by
  unfold sRaise2
  rw [hc]
  rfl
theorem s_raise1 (hc : ca e m = .ok [x] m1) : sRaise1 cid f ca e m = .err ⟨cid, [(f, x)]⟩ m1 := by
  unfold sRaise1
  rw [hc]
  rfl
theorem eq_int {i j : Int} : Mi.opEq (D.int i) (D.int j) m = R.ok (D.bl (i == j)) m := rfl
end
end Mi
end

section
set_option Elab.async false
set_option linter.all false
set_option maxRecDepth 100000
set_option autoImplicit false
set_option maxHeartbeats 4000000
/-! Texts cut at marks; memories that only grow; list objects. -/
namespace Mi
open L2
/-- nothing below b has changed -/
structure Old (b : Nat) (m m' : Mem) : Prop where
  next : m.next ≤ m'.next
  get : ∀ k, k < b → m'.get k = m.get k
theorem Old.refl (b : Nat) (m : Mem) : Old b m m := ⟨Nat.le_refl _, fun _ _ => rfl⟩
theorem Old.trans {b : Nat} {m m1 m2 : Mem} (x : Old b m m1) (y : Old b m1 m2) : Old b m m2 := ⟨Nat.le_trans x.next y.next, fun k h => (y.get k h).trans (x.get k h)⟩
theorem Old.set {b : Nat} {m m1 : Mem} (x : Old b m m1) {k : Nat} (h : b ≤ k) (o : Ob) : Old b m (m1.set k o) := ⟨x.next, fun j hj => by rw [Mem.get_set, if_neg (by omega)]; exact x.get j hj⟩
theorem Old.new {b : Nat} {m m1 : Mem} (x : Old b m m1) (h : b ≤ m1.next) (o : Ob) : Old b m (m1.new o) := ⟨Nat.le_succ_of_le x.next, fun j hj => by rw [Mem.get_new, if_neg (by omega)]; exact x.get j hj⟩
theorem Old.less {a b : Nat} {m m1 : Mem} (x : Old b m m1) (h : a ≤ b) : Old a m m1 := ⟨x.next, fun j hj => x.get j (by omega)⟩
theorem Old.kept {m m1 : Mem} {b p : Nat} (x : Old b m m1) (h : m.next ≤ b) : Kept m m1 p := ⟨x.next, fun k hk _ => x.get k (by omega)⟩
theorem Pen.old {m m1 : Mem} {p q b : Nat} {ns : List Int} {a g : Int} (h : Pen m p q ns a g) (x : Old b m m1) (hb : m.next ≤ b) : Pen m1 p q ns a g :=
  ⟨by rw [x.get p (Nat.lt_of_lt_of_le h.lp hb)]; exact h.at_, by rw [x.get q (Nat.lt_of_lt_of_le h.lq hb)]; exact h.sc, h.ne, Nat.lt_of_lt_of_le h.lp x.next, Nat.lt_of_lt_of_le h.lq x.next, h.a0, h.g0⟩
theorem get_self {m : Mem} {k : Nat} {o : Ob} : (m.set k o).get k = some o := by rw [Mem.get_set, if_pos rfl]
theorem get_ne {m : Mem} {k j : Nat} {o : Ob} (h : j ≠ k) : (m.set k o).get j = m.get j := by rw [Mem.get_set, if_neg h]
theorem new_self {m : Mem} {o : Ob} : (m.new o).get m.next = some o := by rw [Mem.get_new, if_pos rfl]
theorem new_lt {m : Mem} {j : Nat} {o : Ob} (h : j < m.next) : (m.new o).get j = m.get j := by rw [Mem.get_new, if_neg (Nat.ne_of_lt h)]
/-- items by number -/
theorem ixD_nat {xs : List D} {n : Nat} {d : D} (h : xs[n]? = some d) : ixD xs (n : Int) = some d := by
  have hn : n < xs.length := by
    rcases Nat.lt_or_ge n xs.length with z | z
    · exact z
    · rw [List.getElem?_eq_none z] at h
      cases h
  unfold ixD atI
  have e : ixN xs.length (n : Int) = some n := by
    unfold ixN
    simp [hn]
  rw [e]
  simpa using h
theorem lineOk_of {n : Nat} (h : n ≤ 16777216) : lineOk n = true := Nat.ble_eq_true_of_le h
theorem len_lst {m : Mem} {n : Nat} {xs : List D} (h : m.get n = some (.lst xs)) : fLen [.ref n] m = .ok (.int xs.length) m := by
  show (match m.get n with
    | some (.lst xs) => R.ok (D.int xs.length) m
    | some (.frz xs) => .ok (D.int xs.length) m
    | some (.dic kvs) => .ok (D.int kvs.length) m
    | _ => .bad) = _
  rw [h]
/-! ### texts -/
theorem spl_ne (S : List Nat) : ∀ (l : List Nat) (k : Nat) (acc : List Nat), TL.spl S k acc l ≠ []
  | [], k, acc => by
    rw [TL.spl_nil]
    simp
  | c :: r, 0, acc => by
    show (if TL.pre S (c :: r) = true then acc :: TL.spl S (S.length - 1) [] r else TL.spl S 0 (acc ++ [c]) r) ≠ []
    split
    · simp
    · exact spl_ne S r 0 _
  | c :: r, k + 1, acc => spl_ne S r k acc
theorem spl_len (S : List Nat) : ∀ (l : List Nat) (k : Nat) (acc : List Nat), (TL.spl S k acc l).length ≤ l.length + 1
  | [], k, acc => by
    rw [TL.spl_nil]
    simp
  | c :: r, 0, acc => by
    show (if TL.pre S (c :: r) = true then acc :: TL.spl S (S.length - 1) [] r else TL.spl S 0 (acc ++ [c]) r).length ≤ _
    split
    · have := spl_len S r (S.length - 1) []
      simp
      omega
    · have := spl_len S r 0 (acc ++ [c])
      simp
      omega
  | c :: r, k + 1, acc => by
    have := spl_len S r k acc
    show (TL.spl S k acc r).length ≤ _
    simp
    omega
theorem spl_mem (S : List Nat) : ∀ (l : List Nat) (k : Nat) (acc : List Nat), ∀ p ∈ TL.spl S k acc l, ∀ c ∈ p, c ∈ acc ∨ c ∈ l
  | [], k, acc, p, hp, c, hc => by
    rw [TL.spl_nil] at hp
    rw [List.mem_singleton.mp hp] at hc
    exact .inl hc
  | x :: r, 0, acc, p, hp, c, hc => by
    have hp : p ∈ (if TL.pre S (x :: r) = true then acc :: TL.spl S (S.length - 1) [] r else TL.spl S 0 (acc ++ [x]) r) := hp
    split at hp
    · rcases List.mem_cons.mp hp with hp | hp
      · rw [hp] at hc
        exact .inl hc
      · rcases spl_mem S r (S.length - 1) [] p hp c hc with h | h
        · cases h
        · exact .inr (List.mem_cons_of_mem _ h)
    · rcases spl_mem S r 0 (acc ++ [x]) p hp c hc with h | h
      · rcases List.mem_append.mp h with h | h
        · exact .inl h
        · exact .inr (by rw [List.mem_singleton.mp h]; exact List.mem_cons_self)
      · exact .inr (List.mem_cons_of_mem _ h)
  | x :: r, k + 1, acc, p, hp, c, hc => by
    rcases spl_mem S r k acc p hp c hc with h | h
    · exact .inl h
    · exact .inr (List.mem_cons_of_mem _ h)
theorem spl_plen (S : List Nat) : ∀ (l : List Nat) (k : Nat) (acc : List Nat), ∀ p ∈ TL.spl S k acc l, p.length ≤ acc.length + l.length
  | [], k, acc, p, hp => by
    rw [TL.spl_nil] at hp
    rw [List.mem_singleton.mp hp]
    exact Nat.le_add_right _ _
  | x :: r, 0, acc, p, hp => by
    have hp : p ∈ (if TL.pre S (x :: r) = true then acc :: TL.spl S (S.length - 1) [] r else TL.spl S 0 (acc ++ [x]) r) := hp
    split at hp
    · rcases List.mem_cons.mp hp with hp | hp
      · rw [hp]
        exact Nat.le_add_right _ _
      · have := spl_plen S r (S.length - 1) [] p hp
        simp at this ⊢
        omega
    · have := spl_plen S r 0 (acc ++ [x]) p hp
      simp at this ⊢
      omega
  | x :: r, k + 1, acc, p, hp => by
    have := spl_plen S r k acc p hp
    simp
    omega
/-- a text without the mark is one piece; with it there are more -/
theorem spl_one {c : Nat} {t : List Nat} (h : c ∉ t) : TL.spl [c] 0 [] t = [t] := TL.spl_join (parts := [t]) (by simp) (by simpa using h)
theorem pre1 (c x : Nat) (r : List Nat) : TL.pre [c] (x :: r) = (x == c) := by
  show ((x :: r).take 1 == [c]) = _
  simp
theorem spl_two {c : Nat} : ∀ {t acc : List Nat}, c ∈ t → 2 ≤ (TL.spl [c] 0 acc t).length
  | [], _, h => by cases h
  | x :: r, acc, h => by
    show 2 ≤ (if TL.pre [c] (x :: r) = true then acc :: TL.spl [c] ([c].length - 1) [] r else TL.spl [c] 0 (acc ++ [x]) r).length
    rw [pre1]
    by_cases hx : x = c
    · rw [if_pos (by rw [hx]; exact beq_self_eq_true c)]
      have := List.length_pos_iff.mpr (spl_ne [c] r ([c].length - 1) [])
      show 2 ≤ _ + 1
      omega
    · rw [if_neg (by intro z; exact hx (eq_of_beq z))]
      refine spl_two ?_
      rcases List.mem_cons.mp h with z | z
      · exact absurd z.symm hx
      · exact z
theorem cpOk_of {l : List Nat} (h : ∀ c ∈ l, c < 1114112) : cpOk l = true := by
  induction l with
  | nil => rfl
  | cons c r ih =>
    show (Nat.blt c 1114112 && cpOk r) = true
    rw [ih fun z hz => h z (List.mem_cons_of_mem _ hz), Bool.and_true]
    unfold Nat.blt
    exact Nat.ble_eq_true_of_le (h c List.mem_cons_self)
theorem split_ok {m : Mem} {a : List Nat} {c : Nat} (h : a.length ≤ 16000000) (hc : c < 256) : fSplit (.str a) (.str [c]) m = .ok (.ref m.next) (m.new (.lst ((TL.spl [c] 0 [] a).map D.str))) := by
  show (match sepOk [c] && lineOk (a.length + 2) with
    | true => R.ok (D.ref m.next) (m.new (.lst ((TL.spl [c] 0 [] a).map D.str)))
    | false => .bad) = _
  have e1 : sepOk [c] = true := by
    show ([c].all fun c => Nat.blt c 256) = true
    rw [List.all_cons, List.all_nil, Bool.and_true]
    exact Nat.ble_eq_true_of_le hc
  rw [e1, lineOk_of (by omega)]
  rfl
theorem v_split {e : Lo} {m m1 m2 : Mem} {o x : E} {a : List Nat} {c : Nat} (ho : o e m = .ok (.str a) m1) (hx : x e m1 = .ok (.str [c]) m2) (h : a.length ≤ 16000000) (hc : c < 256) : eSplit o x e m = .ok (.ref m2.next) (m2.new (.lst ((TL.spl [c] 0 [] a).map D.str))) := by
  unfold eSplit
  rw [ho]
  show (x e m1).bind _ = _
  rw [hx]
  exact split_ok h hc
end Mi
end

section
set_option Elab.async false
set_option linter.all false
set_option maxRecDepth 100000
set_option autoImplicit false
set_option maxHeartbeats 4000000
namespace Mi
section
variable {e : Lo} {m m1 m2 m3 : Mem} {o a : E} {n : Nat} {xs ys : List D} {x y : D} {xn : Xn} {ca : Es} {i j : Nat}
theorem v_app (ho : o e m = .ok (.ref n) m1) (h1 : m1.get n = some (.lst ys)) (ha : a e m1 = .ok y m2) (h2 : m2.get n = some (.lst xs)) (hl : xs.length + 1 ≤ 16777216) : eAppend o a e m = .ok .non (m2.set n (.lst (xs ++ [y]))) := by
  unfold eAppend
  rw [ho]
  show (match m1.get n with
    | some (.lst _) => (a e m1).bind fun y m2 => (match m2.get n with
      | some (.lst xs) => (match lineOk (xs.length + 1) with
        | true => R.ok D.non (m2.set n (.lst (xs ++ [y])))
        | false => .bad)
      | _ => .bad)
    | _ => .bad) = _
  rw [h1]
  show (a e m1).bind _ = _
  rw [ha]
  show (match m2.get n with
      | some (.lst xs) => (match lineOk (xs.length + 1) with
        | true => R.ok D.non (m2.set n (.lst (xs ++ [y])))
        | false => .bad)
      | _ => .bad) = _
  rw [h2]
  show (match lineOk (xs.length + 1) with
        | true => R.ok D.non (m2.set n (.lst (xs ++ [y])))
        | false => .bad) = _
  rw [lineOk_of hl]
theorem v_appE (ho : o e m = .ok (.ref n) m1) (h1 : m1.get n = some (.lst ys)) (ha : a e m1 = .err xn m2) : eAppend o a e m = .err xn m2 := by
  unfold eAppend
  rw [ho]
  show (match m1.get n with
    | some (.lst _) => (a e m1).bind fun y m2 => (match m2.get n with
      | some (.lst xs) => (match lineOk (xs.length + 1) with
        | true => R.ok D.non (m2.set n (.lst (xs ++ [y])))
        | false => .bad)
      | _ => .bad)
    | _ => .bad) = _
  rw [h1]
  show (a e m1).bind _ = _
  rw [ha]
  rfl
theorem v_lst {ds : List D} (h : ca e m = .ok ds m1) (hl : ds.length ≤ 16777216) : eLst ca e m = .ok (.ref m1.next) (m1.new (.lst ds)) := by
  unfold eLst
  rw [h]
  show (match lineOk ds.length with
    | true => R.ok (D.ref m1.next) (m1.new (.lst ds))
    | false => .bad) = _
  rw [lineOk_of hl]
theorem v_tup {ds : List D} (h : ca e m = .ok ds m1) (hl : ds.length ≤ 16777216) : eTup ca e m = .ok (.tup ds) m1 := by
  unfold eTup
  rw [h]
  show (match lineOk ds.length with
    | true => R.ok (D.tup ds) m1
    | false => .bad) = _
  rw [lineOk_of hl]
theorem s_set2 (h : ca e m = .ok [x, y] m1) : sSet2 i j ca e m = .nx ((e.set i (some x)).set j (some y)) m1 := by
  unfold sSet2
  rw [h]
  rfl
theorem tup_of (h : m.get n = some (.lst xs)) : fTuple [.ref n] m = .ok (.tup xs) m := by
  show (match lstOf m n with
    | some xs => R.ok (D.tup xs) m
    | none => .bad) = _
  rw [lstOf_lst h]
theorem eq_str {a b : List Nat} (ha : cpOk a = true) (hb : cpOk b = true) : Mi.opEq (.str a) (.str b) m = .ok (.bl (a == b)) m := by
  have e1 : sh 64 m (.str a) = true := ha
  have e2 : sh 64 m (.str b) = true := hb
  unfold Mi.opEq eqG
  rw [e1, e2]
  rfl
theorem ne_str {a b : List Nat} (ha : cpOk a = true) (hb : cpOk b = true) : Mi.opNe (.str a) (.str b) m = .ok (.bl (!(a == b))) m := by
  have e1 : sh 64 m (.str a) = true := ha
  have e2 : sh 64 m (.str b) = true := hb
  unfold Mi.opNe eqG
  rw [e1, e2]
  rfl
theorem v_if {t : Et} {b : E} {k : Bool} {r : R D} (h : t e m = .ok k m1) (hr : (if k = true then a e m1 else b e m1) = r) : eIf t a b e m = r := by
  unfold eIf
  rw [h]
  cases k
  · exact hr
  · exact hr
end
end Mi
end

section
set_option Elab.async false
set_option linter.all false
set_option maxRecDepth 100000
set_option autoImplicit false
set_option maxHeartbeats 4000000
/-! Comprehensions whose element leaves the memory as it is; sequences; joined texts. -/
namespace Mi
/-- a list or a tuple of these items -/
def Sq (m : Mem) (x : D) (ds : List D) : Prop := x = .tup ds ∨ ∃ n, x = .ref n ∧ n < m.next ∧ m.get n = some (.lst ds)
theorem Sq.old {m m' : Mem} {x : D} {ds : List D} (h : Sq m x ds) (o : Old m.next m m') : Sq m' x ds := by
  rcases h with h | ⟨n, h1, h2, h3⟩
  · exact .inl h
  · exact .inr ⟨n, h1, Nat.lt_of_lt_of_le h2 o.next, by rw [o.get n h2]; exact h3⟩
theorem Sq.items {m : Mem} {x : D} {ds : List D} (h : Sq m x ds) : seqItems m x = some ds := by
  rcases h with h | ⟨n, h1, h2, h3⟩
  · rw [h]
    rfl
  · rw [h1]
    exact lstOf_lst h3
theorem srcSeq_ok {m m1 : Mem} {e : Lo} {a : E} {x : D} {ds : List D} (ha : a e m = .ok x m1) (h : Sq m1 x ds) : ∃ it, srcSeq a e m = .ok (ds.length + 1, it) m1 ∧ ∀ m2 i, Old m1.next m1 m2 → it i m2 = some ds[i]? := by
  rcases h with h | ⟨n, h1, h2, h3⟩
  · refine ⟨itTup ds, ?_, fun m2 i _ => rfl⟩
    unfold srcSeq
    rw [ha, h]
    rfl
  · refine ⟨itLst n, ?_, fun m2 i o => ?_⟩
    · unfold srcSeq
      rw [ha, h1]
      show (match lstOf m1 n with
        | some xs => Mi.R.ok (xs.length + 1, itLst n) m1
        | none => .bad) = _
      rw [lstOf_lst h3]
    · unfold itLst
      rw [lstOf_lst (by rw [o.get n h2]; exact h3)]
      rfl
theorem lc_pure {e : Lo} {v k b : Nat} {it : Itm} {el : E} {ds : List D} {g : D → D} {m0 : Mem} (hb : b ≤ k) (hl : ds.length ≤ 16000000)
    (hit : ∀ m i, Old b m0 m → it i m = some ds[i]?) (hel : ∀ m, Old b m0 m → ∀ (i : Nat) (d : D), ds[i]? = some d → el (e.set v (some d)) m = .ok (g d) m) :
    ∀ (f i : Nat) (m : Mem) (acc : List D), i + f = ds.length → Old b m0 m → m.get k = some (.lst acc) → acc.length = i →
      ∃ m', eLCl (f + 1) k i it (.one v) tYesM el e m = .ok (.ref k) m' ∧ m'.get k = some (.lst (acc ++ (ds.drop i).map g)) ∧ m'.next = m.next ∧ ∀ j, j ≠ k → m'.get j = m.get j := by
  intro f
  induction f with
  | zero =>
    intro i m acc h ho hk hacc
    refine ⟨m, ?_, ?_, rfl, fun _ _ => rfl⟩
    · show (match (it i m) with
        | none => Mi.R.bad
        | some none => .ok (D.ref k) m
        | some (some d) => _) = _
      rw [hit m i ho, List.getElem?_eq_none (by omega)]
    · rw [List.drop_eq_nil_of_le (by omega), List.map_nil, List.append_nil]
      exact hk
  | succ f ih =>
    intro i m acc h ho hk hacc
    have hi : i < ds.length := by omega
    obtain ⟨m', r1, r2, r3, r4⟩ := ih (i + 1) (m.set k (.lst (acc ++ [g ds[i]]))) (acc ++ [g ds[i]]) (by omega) (ho.set hb _) get_self (by rw [List.length_append, hacc]; rfl)
    refine ⟨m', ?_, ?_, r3, fun j hj => by rw [r4 j hj, get_ne hj]⟩
    · show (match (it i m) with
        | none => Mi.R.bad
        | some none => .ok (D.ref k) m
        | some (some d) => (match setT (.one v) d e with
          | none => .bad
          | some e1 => (noErr (tYesM e1 m)).bind fun kk m1 => match kk with
            | false => eLCl (f + 1) k (i + 1) it (.one v) tYesM el e m1
            | true => (noErr (el e1 m1)).bind fun y m2 => match m2.get k with
              | some (.lst acc) => (match lineOk (acc.length + 1) with
                | true => eLCl (f + 1) k (i + 1) it (.one v) tYesM el e (m2.set k (.lst (acc ++ [y])))
                | false => .bad)
              | _ => .bad)) = _
      rw [hit m i ho, List.getElem?_eq_getElem hi]
      show (noErr (el (e.set v (some ds[i])) m)).bind _ = _
      rw [hel m ho i ds[i] (List.getElem?_eq_getElem hi)]
      show (match m.get k with
        | some (.lst acc) => (match lineOk (acc.length + 1) with
          | true => eLCl (f + 1) k (i + 1) it (.one v) tYesM el e (m.set k (.lst (acc ++ [g ds[i]])))
          | false => .bad)
        | _ => .bad) = _
      rw [hk]
      show (match lineOk (acc.length + 1) with
          | true => eLCl (f + 1) k (i + 1) it (.one v) tYesM el e (m.set k (.lst (acc ++ [g ds[i]])))
          | false => .bad) = _
      rw [lineOk_of (by omega)]
      exact r1
    · rw [r2, List.append_assoc, List.drop_eq_getElem_cons hi]
      rfl
theorem bools_map (l : List Bool) : bools (l.map D.bl) = some l := by
  induction l with
  | nil => rfl
  | cons b r ih =>
    show (bools (r.map D.bl)).map (fun l => b :: l) = _
    rw [ih]
    rfl
theorem strsOf_strs (l : List (List Nat)) : strsOf (l.map D.str) = some l := by
  induction l with
  | nil => rfl
  | cons b r ih =>
    show (match strsOf (r.map D.str) with
      | some l => some (b :: l)
      | none => none) = _
    rw [ih]
/-- all([.. for x in seq]) -/
theorem all_seq {e : Lo} {m m1 : Mem} {a : E} {x : D} {ds : List D} {el : E} {v : Nat} {g : D → Bool} (ha : a e m = .ok x m1) (h : Sq m1 x ds) (hl : ds.length ≤ 16000000)
    (hel : ∀ m2, Old m1.next m1 m2 → ∀ (i : Nat) (d : D), ds[i]? = some d → el ((wipeL e [v]).set v (some d)) m2 = .ok (.bl (g d)) m2) :
    ∃ m', eCall (fAll false) (esCons (eLC (srcSeq a) (.one v) (tYesM) el [v]) (esNil)) e m = .ok (.bl (ds.all g)) m' ∧ Old m1.next m1 m' := by
  obtain ⟨it, i1, i2⟩ := srcSeq_ok ha h
  obtain ⟨m', r1, r2, r3, r4⟩ := lc_pure (e := wipeL e [v]) (v := v) (k := m1.next) (b := m1.next) (it := it) (el := el) (ds := ds) (g := fun d => .bl (g d)) (m0 := m1) (Nat.le_refl _) hl (fun m i o => i2 m i o) hel ds.length 0 (m1.new (.lst [])) [] (by omega) ((Old.refl _ _).new (Nat.le_refl _) _) new_self rfl
  refine ⟨m', ?_, ⟨by rw [r3]; exact Nat.le_succ _, fun j hj => by rw [r4 j (Nat.ne_of_lt hj), new_lt hj]⟩⟩
  have e1 : eLC (srcSeq a) (.one v) (tYesM) el [v] e m = .ok (.ref m1.next) m' := by
    unfold eLC
    rw [i1]
    exact r1
  refine (v_one e1).trans ?_
  show (match lstOf m' m1.next with
    | some xs => (match bools xs with
      | some bs => Mi.R.ok (D.bl (if false then bs.any id else bs.all id)) m'
      | none => .bad)
    | none => .bad) = _
  rw [lstOf_lst r2]
  have e2 : bools ([] ++ (ds.drop 0).map fun d => D.bl (g d)) = some (ds.map g) := by
    rw [List.nil_append, List.drop_zero, ← bools_map (ds.map g), List.map_map]
    rfl
  show (match bools ([] ++ (ds.drop 0).map fun d => D.bl (g d)) with
      | some bs => Mi.R.ok (D.bl (if false then bs.any id else bs.all id)) m'
      | none => .bad) = _
  rw [e2]
  show Mi.R.ok (D.bl ((ds.map g).all id)) m' = _
  rw [List.all_map]
  rfl
theorem v_join {e : Lo} {m m1 m2 : Mem} {o a : E} {s : List Nat} {x : D} {ws : List (List Nat)} (ho : o e m = .ok (.str s) m1) (ha : a e m1 = .ok x m2) (h : Sq m2 x (ws.map .str)) (hl : lenSum ws + ws.length * s.length ≤ 16000000) : eJoin o a e m = .ok (.str (TL.joinL s ws)) m2 := by
  unfold eJoin
  rw [ho]
  show (a e m1).bind _ = _
  rw [ha]
  show fJoin (.str s) x m2 = _
  unfold fJoin
  rw [h.items]
  show (match strsOf (ws.map .str) with
      | some l => (match lineOk (lenSum l + l.length * s.length) with
        | true => Mi.R.ok (D.str (TL.joinL s l)) m2
        | false => .bad)
      | none => .bad) = _
  rw [strsOf_strs]
  show (match lineOk (lenSum ws + ws.length * s.length) with
        | true => Mi.R.ok (D.str (TL.joinL s ws)) m2
        | false => .bad) = _
  rw [lineOk_of (by omega)]
end Mi
end

section
set_option Elab.async false
set_option linter.all false
set_option maxRecDepth 100000
set_option autoImplicit false
set_option maxHeartbeats 4000000
/-! Equality of texts in tuples and lists. -/
namespace Mi
theorem sh_strs (f : Nat) (m : Mem) : ∀ ws : List (List Nat), (∀ w ∈ ws, cpOk w = true) → (ws.map D.str).all (sh f m) = true
  | [], _ => rfl
  | w :: r, h => by
    rw [List.map_cons, List.all_cons, sh_strs f m r fun z hz => h z (List.mem_cons_of_mem _ hz), Bool.and_true]
    have e : sh f m (.str w) = cpOk w := by cases f <;> rfl
    rw [e]
    exact h w List.mem_cons_self
theorem eq_strs (f : Nat) (m : Mem) : ∀ ws : List (List Nat), eqAll (eqd f m) (ws.map D.str) (ws.map D.str) = true
  | [] => rfl
  | w :: r => by
    show (eqd f m (.str w) (.str w) && eqAll (eqd f m) (r.map D.str) (r.map D.str)) = true
    rw [eq_strs f m r, Bool.and_true]
    have e : eqd f m (.str w) (.str w) = (w == w) := by cases f <;> rfl
    rw [e]
    exact beq_self_eq_true w
theorem eqG_tup {neg : Bool} {m : Mem} {ws : List (List Nat)} (h : ∀ w ∈ ws, cpOk w = true) : eqG neg (.tup (ws.map .str)) (.tup (ws.map .str)) m = .ok (.bl (!neg)) m := by
  have e1 : sh 64 m (.tup (ws.map .str)) = true := sh_strs 63 m ws h
  have e2 : eqd 64 m (.tup (ws.map .str)) (.tup (ws.map .str)) = true := eq_strs 63 m ws
  unfold eqG
  rw [e1, e2]
  cases neg <;> rfl
theorem eqG_ltup {neg : Bool} {m : Mem} {a b : Nat} {ws : List (List Nat)} (ha : m.get a = some (.lst [.tup (ws.map .str)])) (hb : m.get b = some (.lst [.tup (ws.map .str)])) (h : ∀ w ∈ ws, cpOk w = true) : eqG neg (.ref a) (.ref b) m = .ok (.bl (!neg)) m := by
  have e1 : sh 64 m (.ref a) = true := by
    show (match lstOf m a with | some xs => xs.all (sh 63 m) | none => false) = true
    rw [lstOf_lst ha]
    show ((ws.map D.str).all (sh 62 m) && true) = true
    rw [sh_strs 62 m ws h]
    rfl
  have e2 : sh 64 m (.ref b) = true := by
    show (match lstOf m b with | some xs => xs.all (sh 63 m) | none => false) = true
    rw [lstOf_lst hb]
    show ((ws.map D.str).all (sh 62 m) && true) = true
    rw [sh_strs 62 m ws h]
    rfl
  have e3 : eqd 64 m (.ref a) (.ref b) = true := by
    show (match lstOf m a, lstOf m b with | some xs, some ys => eqAll (eqd 63 m) xs ys | _, _ => false) = _
    rw [lstOf_lst ha, lstOf_lst hb]
    show (eqAll (eqd 62 m) (ws.map D.str) (ws.map D.str) && true) = true
    rw [eq_strs]
    rfl
  unfold eqG
  rw [e1, e2, e3]
  cases neg <;> rfl
/-- two lists of the same texts -/
theorem eqG_lstr {neg : Bool} {m : Mem} {a b : Nat} {ws : List (List Nat)} (ha : m.get a = some (.lst (ws.map .str))) (hb : m.get b = some (.lst (ws.map .str))) (h : ∀ w ∈ ws, cpOk w = true) : eqG neg (.ref a) (.ref b) m = .ok (.bl (!neg)) m := by
  have e1 : sh 64 m (.ref a) = true := by
    show (match lstOf m a with | some xs => xs.all (sh 63 m) | none => false) = true
    rw [lstOf_lst ha]
    exact sh_strs 63 m ws h
  have e2 : sh 64 m (.ref b) = true := by
    show (match lstOf m b with | some xs => xs.all (sh 63 m) | none => false) = true
    rw [lstOf_lst hb]
    exact sh_strs 63 m ws h
  have e3 : eqd 64 m (.ref a) (.ref b) = true := by
    show (match lstOf m a, lstOf m b with | some xs, some ys => eqAll (eqd 63 m) xs ys | _, _ => false) = _
    rw [lstOf_lst ha, lstOf_lst hb]
    exact eq_strs 63 m ws
  unfold eqG
  rw [e1, e2, e3]
  cases neg <;> rfl
theorem eqG_tii {neg : Bool} {m : Mem} {w : List Nat} {i n : Int} (h : cpOk w = true) : eqG neg (.tup [.str w, .int i, .int n]) (.tup [.str w, .int i, .int n]) m = .ok (.bl (!neg)) m := by
  have e1 : sh 64 m (.tup [.str w, .int i, .int n]) = true := by
    show (cpOk w && true) = true
    rw [h]
    rfl
  have e2 : eqd 64 m (.tup [.str w, .int i, .int n]) (.tup [.str w, .int i, .int n]) = true := by
    show ((w == w) && ((i == i) && ((n == n) && true))) = true
    rw [beq_self_eq_true, beq_self_eq_true, beq_self_eq_true]
    rfl
  unfold eqG
  rw [e1, e2]
  cases neg <;> rfl
theorem cpOk_mem {l : List Nat} (h : cpOk l = true) : ∀ c ∈ l, c < 1114112 := by
  induction l with
  | nil => intro c hc; cases hc
  | cons x r ih =>
    have h : (Nat.blt x 1114112 && cpOk r) = true := h
    obtain ⟨h1, h2⟩ := Bool.and_eq_true_iff.mp h
    intro c hc
    rcases List.mem_cons.mp hc with hc | hc
    · rw [hc]
      exact Nat.le_of_ble_eq_true h1
    · exact ih h2 c hc
theorem spl_cp {S t : List Nat} (h : cpOk t = true) : ∀ w ∈ TL.spl S 0 [] t, cpOk w = true := fun w hw => cpOk_of fun c hc => by
  rcases spl_mem S t 0 [] w hw c hc with z | z
  · cases z
  · exact cpOk_mem h c z
theorem cpOk_app {a b : List Nat} (ha : cpOk a = true) (hb : cpOk b = true) : cpOk (a ++ b) = true := cpOk_of fun c hc => by
  rcases List.mem_append.mp hc with z | z
  · exact cpOk_mem ha c z
  · exact cpOk_mem hb c z
theorem cpOk_join {s : List Nat} (hs : cpOk s = true) : ∀ {ws : List (List Nat)}, (∀ w ∈ ws, cpOk w = true) → cpOk (TL.joinL s ws) = true
  | [], _ => rfl
  | [p], h => h p (List.mem_singleton.mpr rfl)
  | p :: q :: r, h => cpOk_app (h p List.mem_cons_self) (cpOk_app hs (cpOk_join hs fun w hw => h w (List.mem_cons_of_mem _ hw)))
theorem join_len {s : List Nat} : ∀ ws : List (List Nat), (TL.joinL s ws).length ≤ lenSum ws + ws.length * s.length
  | [] => Nat.zero_le _
  | [p] => by
    show p.length ≤ (p.length + 0) + 1 * s.length
    omega
  | p :: q :: r => by
    have := join_len (s := s) (q :: r)
    show (p ++ (s ++ TL.joinL s (q :: r))).length ≤ (p.length + lenSum (q :: r)) + (r.length + 1 + 1) * s.length
    rw [List.length_append, List.length_append, Nat.add_mul, Nat.one_mul]
    have e : (q :: r).length = r.length + 1 := rfl
    rw [e] at this
    omega
theorem lenSum_app (a b : List (List Nat)) : lenSum (a ++ b) = lenSum a + lenSum b := by
  induction a with
  | nil => show lenSum b = 0 + lenSum b; omega
  | cons x r ih =>
    show x.length + lenSum (r ++ b) = x.length + lenSum r + lenSum b
    omega
theorem lenSum_take (n : Nat) (a : List (List Nat)) : lenSum (a.take n) + lenSum (a.drop n) = lenSum a := by
  rw [← lenSum_app, List.take_append_drop]
end Mi
end

section
set_option Elab.async false
set_option linter.all false
set_option maxRecDepth 100000
set_option autoImplicit false
set_option maxHeartbeats 4000000
/-! The classes Line and Lines: their mirrors (the same for each law: gen2.py numbers classes and fields alike). -/
namespace Cm
open Mi
def tbS : Kd → Option Bool
  | .non => some false
  | .bl => some false
  | .int => some false
  | .str => some true
  | .tup => some false
  | .lst => some false
  | .dic => some false
  | .own _ => none
def m_Lines___init__ : Sm := sSeq (sFldM 3 [1] (eVar 0) (eVar 1)) (sSeq (sFldM 4 [1] (eVar 0) (eVar 2)) (sFldM 5 [1] (eVar 0) (eC (.int 0))))
def F_Lines___init__ : Fn := fnM 3 m_Lines___init__
def m_Line___init__ : Sm := sSeq (sFldM 6 [0] (eVar 0) (eVar 1)) (sSeq (sFldM 7 [0] (eVar 0) (eVar 2)) (sFldM 5 [0] (eVar 0) (eC (.int 0))))
def F_Line___init__ : Fn := fnM 3 m_Line___init__
def m_lines_of : Sm := sSeq (sIf (tNotM (tV (eIs noC noC tbS (eVar 0)))) (sRaise2 13 1 2 (esCons (eC (.int 0)) (esCons (eC (.int 0)) (esNil)))) (sNil)) (sRet (eMake 1 F_Lines___init__ 3 [.int 0] (esCons (eLC (srcEnum (esCons (eSplit (eVar 0) (eC (.str [10]))) (esNil))) (.tup [1, 2]) (tYesM) (eMake 0 F_Line___init__ 3 [] (esCons (eVar 1) (esCons (eSplit (eVar 2) (eC (.str [32]))) (esNil)))) [1, 2]) (esNil))))
def F_lines_of : Fn := fnM 3 m_lines_of
def m_Lines_is_read : Sm := sRet (eBin opEq (eFld 5 [1] (eVar 0)) (eCall fLen (esCons (eFld 3 [1] (eVar 0)) (esNil))))
def F_Lines_is_read : Fn := fnM 1 m_Lines_is_read
def m_Lines_refuse : Sm := sRaise2 13 1 2 (esCons (eBin opAdd (eFld 4 [1] (eVar 0)) (eFld 5 [1] (eVar 0))) (esCons (eC (.int 0)) (esNil)))
def F_Lines_refuse : Fn := fnM 1 m_Lines_refuse
def m_Lines_take_line : Sm := sSeq (sIf (tV (eMeth 1 8 F_Lines_is_read 1 [] (eVar 0) (esNil))) (sExpr (eMeth 1 9 F_Lines_refuse 1 [] (eVar 0) (esNil))) (sNil)) (sSeq (sFldAugM 5 [1] (intOp fun i j => some (i + j)) (eVar 0) (eC (.int 1))) (sRet (eBin opIx (eFld 3 [1] (eVar 0)) (eBin opSub (eFld 5 [1] (eVar 0)) (eC (.int 1))))))
def F_Lines_take_line : Fn := fnM 1 m_Lines_take_line
def m_Line_is_read : Sm := sRet (eBin opEq (eFld 5 [0] (eVar 0)) (eCall fLen (esCons (eFld 7 [0] (eVar 0)) (esNil))))
def F_Line_is_read : Fn := fnM 1 m_Line_is_read
def m_Line_refuse : Sm := sRaise2 13 1 2 (esCons (eFld 6 [0] (eVar 0)) (esCons (eFld 5 [0] (eVar 0)) (esNil)))
def F_Line_refuse : Fn := fnM 1 m_Line_refuse
def m_Line_take_word : Sm := sSeq (sIf (tV (eMeth 0 8 F_Line_is_read 1 [] (eVar 0) (esNil))) (sExpr (eMeth 0 9 F_Line_refuse 1 [] (eVar 0) (esNil))) (sNil)) (sSeq (sFldAugM 5 [0] (intOp fun i j => some (i + j)) (eVar 0) (eC (.int 1))) (sRet (eBin opIx (eFld 7 [0] (eVar 0)) (eBin opSub (eFld 5 [0] (eVar 0)) (eC (.int 1))))))
def F_Line_take_word : Fn := fnM 1 m_Line_take_word
def m_Line_need_one_of : Sm := sSeq (sIf (tOrM (tV (eMeth 0 8 F_Line_is_read 1 [] (eVar 0) (esNil))) (tOf (eBin opNotIn (eBin opIx (eFld 7 [0] (eVar 0)) (eFld 5 [0] (eVar 0))) (eVar 1)))) (sExpr (eMeth 0 9 F_Line_refuse 1 [] (eVar 0) (esNil))) (sNil)) (sRet (eMeth 0 11 F_Line_take_word 1 [] (eVar 0) (esNil)))
def F_Line_need_one_of : Fn := fnM 2 m_Line_need_one_of
end Cm
end

section
set_option Elab.async false
set_option linter.all false
set_option maxRecDepth 100000
set_option autoImplicit false
set_option maxHeartbeats 4000000
namespace Cm
open Mi
abbrev lnO (i w s : Nat) : Ob := .ins 0 [(6, .int i), (7, .ref w), (5, .int s)]
abbrev lsO (l a s : Nat) : Ob := .ins 1 [(3, .ref l), (4, .int a), (5, .int s)]
abbrev bt (i n : Nat) : Xn := ⟨13, [(2, .int n), (1, .int i)]⟩
section
variable {m : Mem} {k w i s l a : Nat} {xs : List D} {d : D}
theorem isread_ok (hk : m.get k = some (lnO i w s)) (hw : m.get w = some (.lst xs)) : F_Line_is_read [.ref k] m = .ok (.bl ((s : Int) == (xs.length : Int))) m :=
  fn_rt (s_ret ((v_bin (v_fld (v_var rfl) hk rfl rfl) ((v_one (v_fld (v_var rfl) hk rfl rfl)).trans (len_lst hw))).trans eq_int))
theorem isread2_ok (hk : m.get k = some (lsO l a s)) (hw : m.get l = some (.lst xs)) : F_Lines_is_read [.ref k] m = .ok (.bl ((s : Int) == (xs.length : Int))) m :=
  fn_rt (s_ret ((v_bin (v_fld (v_var rfl) hk rfl rfl) ((v_one (v_fld (v_var rfl) hk rfl rfl)).trans (len_lst hw))).trans eq_int))
theorem refuse_ok (hk : m.get k = some (lnO i w s)) : F_Line_refuse [.ref k] m = .err (bt i s) m :=
  fn_err (s_raise2 (v_cons (v_fld (v_var rfl) hk rfl rfl) (v_cons (v_fld (v_var rfl) hk rfl rfl) v_nil)))
theorem beq_no {s n : Nat} (h : s < n) : ((s : Int) == (n : Int)) = false := by
  rw [beq_eq_false_iff_ne]
  omega
theorem lt_of_get {xs : List D} {n : Nat} {d : D} (h : xs[n]? = some d) : n < xs.length := by
  rcases Nat.lt_or_ge n xs.length with z | z
  · exact z
  · rw [List.getElem?_eq_none z] at h
    cases h
theorem take_ok (hk : m.get k = some (lnO i w s)) (hw : m.get w = some (.lst xs)) (hx : xs[s]? = some d) : F_Line_take_word [.ref k] m = .ok d (m.set k (lnO i w (s + 1))) := by
  have hs := lt_of_get hx
  have hwk : w ≠ k := fun z => by
    rw [z, hk] at hw
    cases hw
  have hr := isread_ok hk hw
  rw [beq_no hs] at hr
  refine fn_rt ((s_seq ((s_ifF (t_val ((v_meth (v_var rfl) hk rfl v_nil rfl).trans hr) rfl)).trans s_nil)).trans ((s_seq (s_fldaug (z := .int ((s + 1 : Nat) : Int)) (v_var rfl) hk rfl rfl v_c rfl hk rfl)).trans (s_ret ?_)))
  have e1 : (m.set k (lnO i w (s + 1))).get k = some (lnO i w (s + 1)) := get_self
  have e2 : (m.set k (lnO i w (s + 1))).get w = some (.lst xs) := by rw [get_ne hwk]; exact hw
  refine (v_bin (v_fld (v_var rfl) e1 rfl rfl) ((v_bin (v_fld (v_var rfl) e1 rfl rfl) v_c).trans sub_ok)).trans (ix_at e2 ?_)
  have e3 : ((s + 1 : Nat) : Int) - 1 = (s : Int) := by omega
  rw [e3]
  exact ixD_nat hx
theorem takel_ok (hk : m.get k = some (lsO l a s)) (hw : m.get l = some (.lst xs)) (hx : xs[s]? = some d) : F_Lines_take_line [.ref k] m = .ok d (m.set k (lsO l a (s + 1))) := by
  have hs := lt_of_get hx
  have hwk : l ≠ k := fun z => by
    rw [z, hk] at hw
    cases hw
  have hr := isread2_ok hk hw
  rw [beq_no hs] at hr
  refine fn_rt ((s_seq ((s_ifF (t_val ((v_meth (v_var rfl) hk rfl v_nil rfl).trans hr) rfl)).trans s_nil)).trans ((s_seq (s_fldaug (z := .int ((s + 1 : Nat) : Int)) (v_var rfl) hk rfl rfl v_c rfl hk rfl)).trans (s_ret ?_)))
  have e1 : (m.set k (lsO l a (s + 1))).get k = some (lsO l a (s + 1)) := get_self
  have e2 : (m.set k (lsO l a (s + 1))).get l = some (.lst xs) := by rw [get_ne hwk]; exact hw
  refine (v_bin (v_fld (v_var rfl) e1 rfl rfl) ((v_bin (v_fld (v_var rfl) e1 rfl rfl) v_c).trans sub_ok)).trans (ix_at e2 ?_)
  have e3 : ((s + 1 : Nat) : Int) - 1 = (s : Int) := by omega
  rw [e3]
  exact ixD_nat hx
/-- need_one_of: the next word is among the given ones, or it is refused -/
theorem need_ok {ts : List D} {b : Bool} (hk : m.get k = some (lnO i w s)) (hw : m.get w = some (.lst xs)) (hx : xs[s]? = some d) (hi : inF d ts = some b) :
    F_Line_need_one_of [.ref k, .tup ts] m = if b = true then .ok d (m.set k (lnO i w (s + 1))) else .err (bt i s) m := by
  have hs := lt_of_get hx
  have hr := isread_ok hk hw
  rw [beq_no hs] at hr
  have t1 : tV (eMeth 0 8 F_Line_is_read 1 [] (eVar 0) (esNil)) [some (.ref k), some (.tup ts)] m = .ok false m := t_val ((v_meth (v_var rfl) hk rfl v_nil rfl).trans hr) rfl
  have t2 : tOf (eBin opNotIn (eBin opIx (eFld 7 [0] (eVar 0)) (eFld 5 [0] (eVar 0))) (eVar 1)) [some (.ref k), some (.tup ts)] m = .ok (!b) m := by
    refine t_of ((v_bin ((v_bin (v_fld (v_var rfl) hk rfl rfl) (v_fld (v_var rfl) hk rfl rfl)).trans (ix_at hw (ixD_nat hx))) (v_var rfl)).trans ?_)
    show (match inF d ts with
      | some b => R.ok (D.bl (if true then !b else b)) m
      | none => .bad) = _
    rw [hi]
    rfl
  have t3 := (t_orF (t2 := tOf (eBin opNotIn (eBin opIx (eFld 7 [0] (eVar 0)) (eFld 5 [0] (eVar 0))) (eVar 1))) t1).trans t2
  cases b with
  | true =>
    rw [if_pos rfl]
    exact fn_rt ((s_seq ((s_ifF t3).trans s_nil)).trans (s_ret ((v_meth (v_var rfl) hk rfl v_nil rfl).trans (take_ok hk hw hx))))
  | false =>
    rw [if_neg Bool.false_ne_true]
    exact fn_err (s_seqE ((s_ifT t3).trans (s_exprE ((v_meth (v_var rfl) hk rfl v_nil rfl).trans (refuse_ok hk)))))
end
end Cm
end

section
set_option Elab.async false
set_option linter.all false
set_option maxRecDepth 100000
set_option autoImplicit false
set_option maxHeartbeats 4000000
namespace Cm
open Mi
/-- two memories of one size, alike but at k -/
structure Set1 (k : Nat) (m m' : Mem) : Prop where
  next : m'.next = m.next
  get : ∀ j, j ≠ k → m'.get j = m.get j
theorem line_ok {m : Mem} {k i w : Nat} (hk : m.get k = some (.ins 0 [])) : ∃ m', F_Line___init__ [.ref k, .int i, .ref w] m = .ok .non m' ∧ m'.get k = some (lnO i w 0) ∧ Set1 k m m' := by
  refine ⟨_, fn_nx ((s_seq (s_fld (v_var rfl) (v_var rfl) hk rfl)).trans ((s_seq (s_fld (v_var rfl) (v_var rfl) get_self rfl)).trans (s_fld v_c (v_var rfl) get_self rfl))), get_self, rfl, fun j hj => ?_⟩
  rw [get_ne hj, get_ne hj, get_ne hj]
theorem lines_init {m : Mem} {k l a : Nat} (hk : m.get k = some (.ins 1 [])) : ∃ m', F_Lines___init__ [.ref k, .ref l, .int a] m = .ok .non m' ∧ m'.get k = some (lsO l a 0) ∧ Set1 k m m' := by
  refine ⟨_, fn_nx ((s_seq (s_fld (v_var rfl) (v_var rfl) hk rfl)).trans ((s_seq (s_fld (v_var rfl) (v_var rfl) get_self rfl)).trans (s_fld v_c (v_var rfl) get_self rfl))), get_self, rfl, fun j hj => ?_⟩
  rw [get_ne hj, get_ne hj, get_ne hj]
abbrev wds (s : List Nat) : List (List Nat) := TL.spl [32] 0 [] s
abbrev lns (s : List Nat) : List (List Nat) := TL.spl [10] 0 [] s
def LineAt (m : Mem) (b : Nat) (d : D) (i : Nat) (s : List Nat) : Prop := ∃ j w, d = .ref j ∧ b ≤ j ∧ b ≤ w ∧ j < m.next ∧ w < m.next ∧ m.get j = some (lnO i w 0) ∧ m.get w = some (.lst ((wds s).map .str))
theorem LineAt.keep {m m' : Mem} {b i : Nat} {d : D} {s : List Nat} (h : LineAt m b d i s) (hn : m.next ≤ m'.next) (hg : ∀ j, b ≤ j → j < m.next → m'.get j = m.get j) : LineAt m' b d i s := by
  obtain ⟨j, w, h1, h2, h3, h4, h5, h6, h7⟩ := h
  exact ⟨j, w, h1, h2, h3, by omega, by omega, by rw [hg j h2 h4]; exact h6, by rw [hg w h3 h5]; exact h7⟩
def elLine : E := eMake 0 F_Line___init__ 3 [] (esCons (eVar 1) (esCons (eSplit (eVar 2) (eC (.str [32]))) (esNil)))
theorem elLine_ok {m : Mem} {e : Lo} {i : Nat} {s : List Nat} (h1 : e[1]? = some (some (.int i))) (h2 : e[2]? = some (some (.str s))) (hs : s.length ≤ 16000000) : ∃ d m', elLine e m = .ok d m' ∧ LineAt m' m.next d i s ∧ Old m.next m m' := by
  have hc : (esCons (eVar 1) (esCons (eSplit (eVar 2) (eC (.str [32]))) (esNil))) e m = .ok [.int i, .ref m.next] (m.new (.lst ((wds s).map .str))) := v_cons (v_var h1) (v_cons (v_split (v_var h2) v_c hs (by decide)) v_nil)
  obtain ⟨m', e1, g1, x1⟩ := line_ok (i := i) (w := m.next) (m := (m.new (.lst ((wds s).map .str))).new (.ins 0 [])) new_self
  have hw : m.next < (m.new (.lst ((wds s).map .str))).next := Nat.lt_succ_self _
  refine ⟨_, m', v_make hc rfl e1, ⟨_, m.next, rfl, Nat.le_succ _, Nat.le_refl _, ?_, ?_, g1, ?_⟩, ⟨?_, fun j hj => ?_⟩⟩
  · rw [x1.next]
    exact Nat.lt_succ_self _
  · rw [x1.next]
    exact Nat.lt_succ_of_lt hw
  · rw [x1.get _ (Nat.ne_of_lt hw), new_lt hw, new_self]
  · rw [x1.next]
    exact Nat.le_succ_of_le (Nat.le_succ _)
  · have hj2 : j < (m.new (.lst ((wds s).map .str))).next := Nat.lt_succ_of_lt hj
    rw [x1.get _ (Nat.ne_of_lt hj2), new_lt hj2, new_lt hj]
theorem lc_lines {e : Lo} {n0 k : Nat} {L : List (List Nat)} (he : 2 < e.length) (hnk : n0 < k) (hL : L.length ≤ 16000000) (hs : ∀ s ∈ L, s.length ≤ 16000000) :
    ∀ (f i : Nat) (m : Mem) (acc : List D), i + f = L.length → m.get n0 = some (.lst (L.map .str)) → m.get k = some (.lst acc) → k < m.next → acc.length = i → (∀ j d s, acc[j]? = some d → L[j]? = some s → LineAt m (k + 1) d j s) →
      ∃ ds m', eLCl (f + 1) k i (itEnum n0) (.tup [1, 2]) tYesM elLine e m = .ok (.ref k) m' ∧ m'.get k = some (.lst ds) ∧ ds.length = L.length ∧ (∀ j d s, ds[j]? = some d → L[j]? = some s → LineAt m' (k + 1) d j s) ∧ m.next ≤ m'.next ∧ ∀ j, j < m.next → j ≠ k → m'.get j = m.get j := by
  intro f
  induction f with
  | zero =>
    intro i m acc h hn hk hkn hl hA
    refine ⟨acc, m, ?_, hk, by omega, hA, Nat.le_refl _, fun _ _ _ => rfl⟩
    have hi : itEnum n0 i m = some none := by
      unfold itEnum
      rw [lstOf_lst hn]
      show some ((L.map D.str)[i]?.map _) = _
      rw [List.getElem?_eq_none (by rw [List.length_map]; omega)]
      rfl
    show (match (itEnum n0 i m) with
      | none => R.bad
      | some none => .ok (D.ref k) m
      | some (some d) => _) = _
    rw [hi]
  | succ f ih =>
    intro i m acc h hn hk hkn hl hA
    have hiL : i < L.length := by omega
    have hi : itEnum n0 i m = some (some (.tup [.int i, .str L[i]])) := by
      unfold itEnum
      rw [lstOf_lst hn]
      show some ((L.map D.str)[i]?.map _) = _
      rw [List.getElem?_map, List.getElem?_eq_getElem hiL]
      rfl
    have e1 : ((e.set 1 (some (.int i))).set 2 (some (.str L[i])))[1]? = some (some (.int i)) := by
      rw [List.getElem?_set_ne (by decide), List.getElem?_set_self (by omega)]
    have e2 : ((e.set 1 (some (.int i))).set 2 (some (.str L[i])))[2]? = some (some (.str L[i])) := by
      rw [List.getElem?_set_self (by rw [List.length_set]; omega)]
    obtain ⟨d, m1, c1, c2, c3⟩ := elLine_ok (m := m) e1 e2 (hs _ (List.getElem_mem hiL))
    have hk1 : m1.get k = some (.lst acc) := by rw [c3.get k hkn]; exact hk
    have hn1 : m1.get n0 = some (.lst (L.map .str)) := by rw [c3.get n0 (by omega)]; exact hn
    obtain ⟨ds, m2, r1, r2, r3, r4, r5, r6⟩ := ih (i + 1) (m1.set k (.lst (acc ++ [d]))) (acc ++ [d]) (by omega) (by rw [get_ne (Nat.ne_of_lt hnk)]; exact hn1) get_self (Nat.lt_of_lt_of_le hkn c3.next) (by rw [List.length_append, hl]; rfl) (fun j x s hx hs => by
      by_cases hj : j < acc.length
      · rw [List.getElem?_append_left hj] at hx
        exact (hA j x s hx hs).keep (m' := m1.set k (.lst (acc ++ [d]))) c3.next (fun z hz hz2 => by rw [get_ne (by omega)]; exact c3.get z hz2)
      · rw [List.getElem?_append_right (by omega)] at hx
        have hj0 : j - acc.length = 0 := by
          rcases Nat.eq_zero_or_pos (j - acc.length) with z | z
          · exact z
          · rw [List.getElem?_eq_none (by show 1 ≤ _; omega)] at hx
            cases hx
        rw [hj0] at hx
        have hx : d = x := Option.some.inj hx
        have hji : j = i := by omega
        rw [hji, List.getElem?_eq_getElem hiL] at hs
        have hs : L[i] = s := Option.some.inj hs
        rw [← hx, ← hs, hji]
        obtain ⟨a, w, q1, q2, q3, q4, q5, q6, q7⟩ := c2
        exact ⟨a, w, q1, by omega, by omega, q4, q5, by rw [get_ne (by omega)]; exact q6, by rw [get_ne (by omega)]; exact q7⟩)
    refine ⟨ds, m2, ?_, r2, r3, r4, Nat.le_trans c3.next r5, fun j hj hjk => ?_⟩
    · show (match (itEnum n0 i m) with
        | none => R.bad
        | some none => .ok (D.ref k) m
        | some (some d) => (match setT (.tup [1, 2]) d e with
          | none => .bad
          | some e1 => (noErr (tYesM e1 m)).bind fun kk m1 => match kk with
            | false => eLCl (f + 1) k (i + 1) (itEnum n0) (.tup [1, 2]) tYesM elLine e m1
            | true => (noErr (elLine e1 m1)).bind fun y m2 => match m2.get k with
              | some (.lst acc) => (match lineOk (acc.length + 1) with
                | true => eLCl (f + 1) k (i + 1) (itEnum n0) (.tup [1, 2]) tYesM elLine e (m2.set k (.lst (acc ++ [y])))
                | false => .bad)
              | _ => .bad)) = _
      rw [hi]
      show (noErr (elLine ((e.set 1 (some (.int i))).set 2 (some (.str L[i]))) m)).bind _ = _
      rw [c1]
      show (match m1.get k with
        | some (.lst acc) => (match lineOk (acc.length + 1) with
          | true => eLCl (f + 1) k (i + 1) (itEnum n0) (.tup [1, 2]) tYesM elLine e (m1.set k (.lst (acc ++ [d])))
          | false => .bad)
        | _ => .bad) = _
      rw [hk1]
      show (match lineOk (acc.length + 1) with
          | true => eLCl (f + 1) k (i + 1) (itEnum n0) (.tup [1, 2]) tYesM elLine e (m1.set k (.lst (acc ++ [d])))
          | false => .bad) = _
      rw [lineOk_of (by omega)]
      exact r1
    · rw [r6 j (Nat.lt_of_lt_of_le hj c3.next) hjk, get_ne hjk]
      exact c3.get j hj
/-- lines_of on a text -/
theorem lines_of_ok {m : Mem} {t : List Nat} (ht : t.length ≤ 15000000) :
    ∃ n l ds m', F_lines_of [.str t] m = .ok (.ref n) m' ∧ m'.get n = some (lsO l 0 0) ∧ m'.get l = some (.lst ds) ∧ m.next ≤ l ∧ m.next ≤ n ∧ n < m'.next ∧ l < m'.next ∧ ds.length = (lns t).length ∧ (∀ j d s, ds[j]? = some d → (lns t)[j]? = some s → LineAt m' (l + 1) d j s) ∧ Old m.next m m' := by
  have t1 : (tNotM (tV (eIs noC noC tbS (eVar 0)))) [some (.str t), none, none] m = .ok false m := t_not (t_val (x := .bl true) rfl rfl)
  have hsrc : (srcEnum (esCons (eSplit (eVar 0) (eC (.str [10]))) (esNil))) [some (.str t), none, none] m = .ok ((lns t).length + 1, itEnum m.next) (m.new (.lst ((lns t).map .str))) := by
    unfold srcEnum
    rw [v_cons (v_split (v_var rfl) v_c (by omega) (by decide)) v_nil]
    show (match lstOf (m.new (.lst ((lns t).map .str))) m.next with
      | some xs => R.ok (xs.length + 1, itEnum m.next) (m.new (.lst ((lns t).map .str)))
      | none => .bad) = _
    rw [lstOf_lst new_self]
    show R.ok (((lns t).map D.str).length + 1, _) _ = _
    rw [List.length_map]
  have hlt : m.next < (m.new (.lst ((lns t).map .str))).next := Nat.lt_succ_self _
  obtain ⟨ds, m2, r1, r2, r3, r4, r5, r6⟩ := lc_lines (e := [some (.str t), none, none]) (n0 := m.next) (k := (m.new (.lst ((lns t).map .str))).next) (L := lns t) (Nat.lt_succ_self 2) hlt (Nat.le_trans (spl_len [10] t 0 []) (by omega)) (fun s h => by have := spl_plen [10] t 0 [] s h; simp at this; omega) (lns t).length 0 ((m.new (.lst ((lns t).map .str))).new (.lst [])) [] (by omega) (by rw [new_lt hlt, new_self]) new_self (Nat.lt_succ_self _) rfl (fun j d s h => by simp at h)
  have hlc : (eLC (srcEnum (esCons (eSplit (eVar 0) (eC (.str [10]))) (esNil))) (.tup [1, 2]) (tYesM) elLine [1, 2]) [some (.str t), none, none] m = .ok (.ref (m.new (.lst ((lns t).map .str))).next) m2 := by
    unfold eLC
    rw [hsrc]
    exact r1
  have hl2 : (m.new (.lst ((lns t).map .str))).next < m2.next := Nat.lt_of_lt_of_le (Nat.lt_succ_self _) r5
  obtain ⟨m3, i1, i2, i3⟩ := lines_init (m := m2.new (.ins 1 [])) (k := m2.next) (l := (m.new (.lst ((lns t).map .str))).next) (a := 0) new_self
  refine ⟨m2.next, (m.new (.lst ((lns t).map .str))).next, ds, m3, fn_rt ((s_seq ((s_ifF t1).trans s_nil)).trans (s_ret (v_make (v_cons hlc v_nil) rfl i1))), i2, ?_, Nat.le_of_lt hlt, by have : m.next + 1 + 1 ≤ m2.next := r5; omega, ?_, ?_, r3, fun j d s hd hs => ?_, ⟨?_, fun j hj => ?_⟩⟩
  · rw [i3.get _ (Nat.ne_of_lt hl2), new_lt hl2]
    exact r2
  · rw [i3.next]
    exact Nat.lt_succ_self _
  · rw [i3.next]
    exact Nat.lt_succ_of_lt hl2
  · exact (r4 j d s hd hs).keep (by rw [i3.next]; exact Nat.le_succ _) (fun z hz hz2 => by rw [i3.get z (by omega), new_lt hz2])
  · rw [i3.next]
    have : m.next + 1 + 1 ≤ m2.next := r5
    show m.next ≤ m2.next + 1
    omega
  · have h2 : m.next + 1 + 1 ≤ m2.next := r5
    have h3 : (m.new (.lst ((lns t).map .str))).next = m.next + 1 := rfl
    rw [i3.get j (by omega), new_lt (by omega : j < m2.next), r6 j (by show j < m.next + 1 + 1; omega) (by omega), new_lt (by omega), new_lt hj]
end Cm
end

section
set_option Elab.async false
set_option linter.all false
set_option maxRecDepth 100000
set_option autoImplicit false
set_option maxHeartbeats 4000000
namespace Mi
theorem rngOk_nat (n : Nat) (h : n < 1000000) : rngOk (n : Int) = true := by
  unfold rngOk
  have h1 : -(2 ^ 62 : Int) ≤ (n : Int) := Int.le_trans (by decide) (Int.natCast_nonneg n)
  have h2 : (n : Int) < 2 ^ 62 := Int.lt_of_lt_of_le (Int.ofNat_lt.mpr h) (by decide)
  exact Bool.and_eq_true_iff.mpr ⟨decide_eq_true h1, decide_eq_true h2⟩
theorem srcRng1_j {cs : Es} {e : Lo} {m m1 : Mem} {j : Int} (hc : cs e m = .ok [.int j] m1) (h : rngOk j = true) : srcRng1 cs e m = .ok (j.toNat + 1, itRng 0 j.toNat) m1 := by
  unfold srcRng1
  rw [hc]
  show (match rngOk j with
    | true => R.ok (j.toNat + 1, itRng 0 j.toNat) m1
    | false => .bad) = _
  rw [h]
theorem srcRng1_ok {cs : Es} {e : Lo} {m m1 : Mem} {n : Nat} (hc : cs e m = .ok [.int (n : Int)] m1) (h : n < 1000000) : srcRng1 cs e m = .ok (n + 1, itRng 0 n) m1 := by
  have q := srcRng1_j hc (rngOk_nat n h)
  rw [Int.toNat_natCast] at q
  exact q
theorem Pen.setk {m : Mem} {p q k : Nat} {ns : List Int} {a g : Int} (h : Pen m p q ns a g) (h1 : k ≠ p) (h2 : k ≠ q) (o : Ob) : Pen (m.set k o) p q ns a g :=
  ⟨by rw [Mem.get_set, if_neg (Ne.symm h1)]; exact h.at_, by rw [Mem.get_set, if_neg (Ne.symm h2)]; exact h.sc, h.ne, h.lp, h.lq, h.a0, h.g0⟩
end Mi
namespace K81
open Mi
theorem drawOk : DrawOk F__law_draw := fun {m p q ns a g many} h ha hm hm2 => draw_ok (A := 141445) (B := 16349) (C := 165503) (by decide) (by decide) (by decide) (by decide) (by decide) (by decide) h ha hm hm2
theorem pick_eq : F__law_pick = fnM 2 (gPick F__law_draw) := rfl
abbrev yes : List Nat := [121, 101, 115]
abbrev no : List Nat := [110, 111]
/-- an answer -/
def Ans (w : List Nat) : Prop := w = yes ∨ w = no
theorem course_ok {m : Mem} {p q : Nat} {ns : List Int} {a g : Int} (h : Pen m p q ns a g) (ha : a < 900000) :
    ∃ (ws : List (List Nat)) (a' g' : Int) (m' : Mem), F__law_course [.ref p, .int 9] m = .ok (.tup (ws.map .str)) m' ∧ (∀ w ∈ ws, Ans w) ∧ ws.length ≤ 9 ∧ Pen m' p q ns a' g' ∧ a' ≤ a + 10 ∧ Kept m m' p := by
  obtain ⟨d, a1, g1, m1, e1, d0, d1, p1, q1, k1⟩ := drawOk (many := 10) h (by omega) (by decide) (by decide)
  obtain ⟨n, hn⟩ := Int.eq_ofNat_of_zero_le d0
  subst hn
  have hn9 : n ≤ 9 := by omega
  have hkp : m1.next ≠ p := Nat.ne_of_gt p1.lp
  have hkq : m1.next ≠ q := Nat.ne_of_gt p1.lq
  have hrange : srcRng1 (esCons (eFn F__law_draw 2 [] (esCons (eVar 0) (esCons (eBin Mi.opAdd (eVar 1) (eC (.int 1))) (esNil)))) (esNil)) [some (.ref p), some (.int 9), none] m = .ok (n + 1, itRng 0 n) m1 := by
    exact srcRng1_ok (v_cons ((v_fn (ds := [D.ref p, D.int 10]) (m1 := m) (v_cons (v_var rfl) (v_cons ((v_bin (v_var rfl) v_c).trans add_ok) v_nil)) rfl).trans e1) v_nil) (by omega)
  have hel : ∀ (m : Mem) (a : Int) (j : Int), (∃ g, Pen m p q ns a g) → a < 1000000 → ∃ d a' m', eFn F__law_pick 2 [] (esCons (eVar 0) (esCons (eLst (esCons (eC (.str [121, 101, 115])) (esCons (eC (.str [110, 111])) (esNil)))) (esNil))) ((wipeL [some (.ref p), some (.int 9), none] [2]).set 2 (some (.int j))) m = .ok d m' ∧ (∃ w, d = .str w ∧ Ans w) ∧ (∃ g, Pen m' p q ns a' g) ∧ a' ≤ a + 1 ∧ Kept m m' p := fun m a j ⟨g, hp⟩ ha2 => by
    obtain ⟨d, a', g', m', e, hd, h1, h2, h3⟩ := pick_new (i := 0) (e := (wipeL [some (.ref p), some (.int 9), none] [2]).set 2 (some (.int j))) (cs := cns [.str yes, .str no]) (ds := [.str yes, .str no]) drawOk rfl hp ha2 (cns_ok _) hp (Kept.refl _ _) (by simp) (by decide)
    refine ⟨d, a', m', e, ?_, ⟨g', h1⟩, h2, h3⟩
    rcases List.mem_cons.mp hd with hd | hd
    · exact ⟨yes, hd, .inl rfl⟩
    · exact ⟨no, List.mem_singleton.mp hd, .inr rfl⟩
  obtain ⟨ds, a2, m2, e2, r1, r2, r3, ⟨g2, r4⟩, r5, r6, r7⟩ := lc_range (e0 := [some (.ref p), some (.int 9), none]) (v := 2) (P := fun m a => ∃ g, Pen m p q ns a g) (G := fun d => ∃ w, d = .str w ∧ Ans w) (k := m1.next) n (by omega) hkp hel (fun m a o ⟨g, hp⟩ => ⟨g, hp.setk hkp hkq o⟩) n 0 (m1.new (.lst [])) a1 [] (by omega) ⟨g1, p1.new _⟩ (by omega) (by rw [Mem.get_new, if_pos rfl]) (Nat.lt_succ_self _) (by show 0 + n < 1000000; omega) (fun d hd => by cases hd)
  have hlc : eLC (srcRng1 (esCons (eFn F__law_draw 2 [] (esCons (eVar 0) (esCons (eBin Mi.opAdd (eVar 1) (eC (.int 1))) (esNil)))) (esNil))) (.one 2) (tYesM) (eFn F__law_pick 2 [] (esCons (eVar 0) (esCons (eLst (esCons (eC (.str [121, 101, 115])) (esCons (eC (.str [110, 111])) (esNil)))) (esNil)))) [2] [some (.ref p), some (.int 9), none] m = .ok (.ref m1.next) m2 := by
    unfold eLC
    rw [hrange]
    exact e2
  have ew : ∃ ws : List (List Nat), ds = ws.map .str ∧ (∀ w ∈ ws, Ans w) ∧ ws.length = ds.length := by
    clear r1 r3 e2 hlc
    induction ds with
    | nil => exact ⟨[], rfl, (fun w hw => by cases hw), rfl⟩
    | cons x r ih =>
      obtain ⟨ws, w1, w2, w3⟩ := ih (fun d hd => r2 d (List.mem_cons_of_mem _ hd))
      obtain ⟨w, x1, x2⟩ := r2 x List.mem_cons_self
      refine ⟨w :: ws, by rw [x1, w1]; rfl, fun z hz => ?_, by rw [List.length_cons, List.length_cons, w3]⟩
      rcases List.mem_cons.mp hz with hz | hz
      · rw [hz]
        exact x2
      · exact w2 z hz
  obtain ⟨ws, w1, w2, w3⟩ := ew
  refine ⟨ws, a2, g2, m2, fn_rt (s_ret ((v_one hlc).trans ?_)), w2, by rw [w3, r3]; show 0 + n ≤ 9; omega, r4, by omega, ⟨by have := k1.next; exact Nat.le_trans (Nat.le_succ_of_le this) r6, fun j hj hjp => ?_⟩⟩
  · show (match lstOf m2 m1.next with
      | some xs => R.ok (D.tup xs) m2
      | none => .bad) = _
    rw [lstOf_lst r1, w1]
  · have hj1 : j < m1.next := Nat.lt_of_lt_of_le hj k1.next
    rw [r7 j (Nat.lt_succ_of_lt hj1) hjp (Nat.ne_of_lt hj1), Mem.get_new, if_neg (Nat.ne_of_lt hj1)]
    exact k1.get j hj hjp
end K81
end

section
set_option Elab.async false
set_option linter.all false
set_option maxRecDepth 100000
set_option autoImplicit false
set_option maxHeartbeats 4000000
namespace K81
open Mi Cm
abbrev ts : List D := [.str [121, 101, 115], .str [110, 111]]
def ansB (w : List Nat) : Bool := ([121, 101, 115] == w) || (([110, 111] == w) || false)
theorem in_ts (w : List Nat) : inF (.str w) ts = some (ansB w) := rfl
theorem ans_of {w : List Nat} (h : Ans w) : ansB w = true := by
  rcases h with h | h <;> rw [h] <;> rfl
/-- the first word that is no answer -/
def fb : List (List Nat) → Nat → Option Nat
  | [], _ => none
  | w :: r, n => match ansB w with
    | true => fb r (n + 1)
    | false => some n
def wT : Et := tNotM (tV (eMeth 0 8 F_Line_is_read 1 [] (eVar 2) (esNil)))
def wB : Sm := sExpr (eAppend (eVar 3) (eMeth 0 12 F_Line_need_one_of 2 [] (eVar 2) (esCons (eC (.tup ts)) (esNil))))
theorem wh_ok {e : Lo} {i k w a : Nat} {ws : List (List Nat)} (h2 : e[2]? = some (some (.ref k))) (h3 : e[3]? = some (some (.ref a))) (hak : a ≠ k) (haw : a ≠ w) (hwk : w ≠ k) (hl : ws.length ≤ 16000000) :
    ∀ (f s : Nat) (m : Mem), s ≤ ws.length → ws.length - s < f → m.get k = some (lnO i w s) → m.get w = some (.lst (ws.map .str)) → m.get a = some (.lst ((ws.take s).map .str)) →
      ∃ m', sWhile f wT wB e m = (match fb (ws.drop s) s with | none => .nx e m' | some n => .err (bt i n) m') ∧ (fb (ws.drop s) s = none → m'.get a = some (.lst (ws.map .str))) ∧ m'.next = m.next ∧ ∀ j, j ≠ k → j ≠ a → m'.get j = m.get j := by
  intro f
  induction f with
  | zero => intro s m _ h; exact absurd h (Nat.not_lt_zero _)
  | succ f ih =>
    intro s m hs hf hk hw ha
    have hr := isread_ok hk hw
    have e1 : wT e m = .ok (!((s : Int) == ((ws.map D.str).length : Int))) m := t_not (t_val ((v_meth (v_var h2) hk rfl v_nil rfl).trans hr) rfl)
    show ∃ m', ((wT e m).toS fun k m1 => match k with
      | true => (match wB e m1 with
        | .nx e2 m2 => sWhile f wT wB e2 m2
        | .ct e2 m2 => sWhile f wT wB e2 m2
        | .bk e2 m2 => .nx e2 m2
        | r => r)
      | false => .nx e m1) = _ ∧ _
    rw [e1]
    by_cases hsl : s = ws.length
    · have e2 : ((s : Int) == ((ws.map D.str).length : Int)) = true := by
        rw [List.length_map, hsl]
        exact beq_self_eq_true _
      rw [e2, hsl, List.drop_length]
      refine ⟨m, rfl, fun _ => ?_, rfl, fun _ _ _ => rfl⟩
      rw [hsl, List.take_length] at ha
      exact ha
    · have hlt : s < ws.length := by omega
      have e2 : ((s : Int) == ((ws.map D.str).length : Int)) = false := by
        rw [List.length_map]
        exact beq_no hlt
      have hx : (ws.map D.str)[s]? = some (.str ws[s]) := by rw [List.getElem?_map, List.getElem?_eq_getElem hlt]; rfl
      have hn := need_ok (ts := ts) hk hw hx (in_ts _)
      have hd : ws.drop s = ws[s] :: ws.drop (s + 1) := List.drop_eq_getElem_cons hlt
      rw [e2, hd]
      show ∃ m', (match wB e m with
        | .nx e2 m2 => sWhile f wT wB e2 m2
        | .ct e2 m2 => sWhile f wT wB e2 m2
        | .bk e2 m2 => .nx e2 m2
        | r => r) = (match (match ansB ws[s] with
          | true => fb (ws.drop (s + 1)) (s + 1)
          | false => some s) with | none => .nx e m' | some n => .err (bt i n) m') ∧ ((match ansB ws[s] with
          | true => fb (ws.drop (s + 1)) (s + 1)
          | false => some s) = none → _) ∧ _
      cases hb : ansB ws[s] with
      | false =>
        rw [hb, if_neg Bool.false_ne_true] at hn
        have e3 : wB e m = .err (bt i s) m := s_exprE (v_appE (v_var h3) ha ((v_meth (v_var h2) hk rfl (v_cons v_c v_nil) rfl).trans hn))
        rw [e3]
        exact ⟨m, rfl, (fun (z : some s = none) => nomatch z), rfl, fun _ _ _ => rfl⟩
      | true =>
        rw [hb, if_pos rfl] at hn
        have ha2 : (m.set k (lnO i w (s + 1))).get a = some (.lst ((ws.take s).map .str)) := by rw [get_ne hak]; exact ha
        have e3 : wB e m = .nx e ((m.set k (lnO i w (s + 1))).set a (.lst ((ws.take s).map .str ++ [.str ws[s]]))) := s_expr (v_app (v_var h3) ha ((v_meth (v_var h2) hk rfl (v_cons v_c v_nil) rfl).trans hn) ha2 (by rw [List.length_map, List.length_take]; omega))
        rw [e3]
        obtain ⟨m', r1, r2, r3, r4⟩ := ih (s + 1) ((m.set k (lnO i w (s + 1))).set a (.lst ((ws.take s).map .str ++ [.str ws[s]]))) hlt (by omega) (by rw [get_ne (Ne.symm hak), get_self]) (by rw [get_ne (Ne.symm haw), get_ne hwk]; exact hw) (by rw [get_self, List.take_succ_eq_append_getElem hlt, List.map_append]; rfl)
        refine ⟨m', r1, r2, r3, fun j h1 h2 => ?_⟩
        rw [r4 j h1 h2, get_ne h2, get_ne h1]

def readR (t : List Nat) (m' : Mem) : Mi.R D := match fb (wds ((lns t).headD [])) 0 with
  | some n => .err (bt 0 n) m'
  | none => match Nat.beq (lns t).length 1 with
    | true => .ok (.tup ((wds ((lns t).headD [])).map .str)) m'
    | false => .err (bt 1 0) m'
theorem nat_beq (n : Nat) : (((1 : Nat) : Int) == (n : Int)) = Nat.beq n 1 := by
  cases h : Nat.beq n 1 with
  | true =>
    rw [Nat.eq_of_beq_eq_true h]
    rfl
  | false =>
    rw [beq_eq_false_iff_ne]
    intro z
    have : n = 1 := by omega
    rw [this] at h
    cases h
/-- read_course on a text -/
theorem read_ok {m : Mem} {t : List Nat} (ht : t.length ≤ 60000) (hc : cpOk t = true) (hne : t ≠ []) : ∃ m', F_read_course [.str t] m = readR t m' ∧ Old m.next m m' := by
  have c0 : (tOf (eBin Mi.opEq (eVar 0) (eC (.str [])))) [some (.str t), none, none, none] m = .ok false m := by
    refine t_of ((v_bin (v_var rfl) v_c).trans ((eq_str hc rfl).trans ?_))
    cases t with
    | nil => exact absurd rfl hne
    | cons _ _ => rfl
  obtain ⟨n, l, ds, m1, r1, r2, r3, r4, r5, r6, r7, r8, r9, r10⟩ := lines_of_ok (m := m) (t := t) (by omega)
  have hL : lns t ≠ [] := spl_ne _ _ _ _
  obtain ⟨f, rest, hfr⟩ := List.exists_cons_of_ne_nil hL
  have hf : (lns t).headD [] = f := by rw [hfr]; rfl
  have hd0 : 0 < ds.length := by rw [r8, hfr]; exact Nat.zero_lt_succ _
  obtain ⟨k, w, k1, k2, k3, k4, k5, k6, k7⟩ := r9 0 ds[0] f (List.getElem?_eq_getElem hd0) (by rw [hfr]; rfl)
  have hx : ds[0]? = some (.ref k) := by rw [List.getElem?_eq_getElem hd0, k1]
  have hln : l ≠ n := fun z => by
    rw [z, r2] at r3
    cases r3
  have hkn : k ≠ n := fun z => by
    rw [z, r2] at k6
    cases k6
  have hwn : w ≠ n := fun z => by
    rw [z, r2] at k7
    cases k7
  have hwk : w ≠ k := fun z => by
    rw [z, k6] at k7
    cases k7
  have hlk : l ≠ k := by omega
  have tk := takel_ok r2 r3 hx
  have hnx : (m1.set n (lsO l 0 1)).next = m1.next := rfl
  have ca : (esCons (eMeth 1 10 F_Lines_take_line 1 [] (eVar 1) (esNil)) (esCons (eLst (esNil)) (esNil))) [some (.str t), some (.ref n), none, none] m1 = .ok [.ref k, .ref m1.next] ((m1.set n (lsO l 0 1)).new (.lst [])) :=
    v_cons ((v_meth (v_var rfl) r2 rfl v_nil rfl).trans tk) (v_cons (v_lst (m1 := m1.set n (lsO l 0 1)) (ds := []) v_nil (by decide)) v_nil)
  have g1 : ∀ j, j < m1.next → j ≠ n → ((m1.set n (lsO l 0 1)).new (.lst [])).get j = m1.get j := fun j h1 h2 => by rw [new_lt (by rw [hnx]; exact h1), get_ne h2]
  have hwl : (wds f).length ≤ t.length + 1 := by
    have h1 := spl_len [32] f 0 []
    have h2 := spl_plen [10] t 0 [] f (by show f ∈ lns t; rw [hfr]; exact List.mem_cons_self)
    simp at h2
    show (TL.spl [32] 0 [] f).length ≤ _
    omega
  obtain ⟨m2, w1, w2, w3, w4⟩ := wh_ok (e := [some (.str t), some (.ref n), some (.ref k), some (.ref m1.next)]) (i := 0) (k := k) (w := w) (a := m1.next) (ws := wds f) rfl rfl (Nat.ne_of_gt k4) (Nat.ne_of_gt k5) hwk (by omega) 100000 0 ((m1.set n (lsO l 0 1)).new (.lst [])) (Nat.zero_le _) (by omega) (by rw [g1 k k4 hkn]; exact k6) (by rw [g1 w k5 hwn]; exact k7) new_self
  have hold : Old m.next m m2 := by
    refine ⟨?_, fun j hj => ?_⟩
    · rw [w3]
      exact Nat.le_succ_of_le r10.next
    · have := r10.next
      rw [w4 j (by omega) (by omega), g1 j (by omega) (by omega)]
      exact r10.get j hj
  have hhead : ∀ r, (∀ (e0 : Lo), e0 = [some (.str t), some (.ref n), some (.ref k), some (.ref m1.next)] → sSeq (sWhile 100000 wT wB) (sSeq (sIf (tNotM (tV (eMeth 1 8 F_Lines_is_read 1 [] (eVar 1) (esNil)))) (sRaise2 13 1 2 (esCons (eC (.int 1)) (esCons (eC (.int 0)) (esNil)))) (sNil)) (sRet (eCall fTuple (esCons (eVar 3) (esNil))))) e0 ((m1.set n (lsO l 0 1)).new (.lst [])) = r) → m_read_course [some (.str t), none, none, none] m = r := fun r h => by
    refine (s_seq ((s_ifF c0).trans s_nil)).trans ((s_seq (s_set ((v_fn (v_cons (v_var rfl) v_nil) rfl).trans r1))).trans ((s_seq (s_set2 ca)).trans ?_))
    exact h _ rfl
  rw [List.drop_zero] at w1 w2
  refine ⟨m2, ?_, hold⟩
  unfold readR
  rw [hf]
  cases hfb : fb (wds f) 0 with
  | some j =>
    rw [hfb] at w1
    exact fn_err (hhead _ fun e0 he => by rw [he]; exact s_seqE w1)
  | none =>
    rw [hfb] at w1
    have q2 : m2.get n = some (lsO l 0 1) := by rw [w4 n (Ne.symm hkn) (by omega), new_lt (by rw [hnx]; exact r6), get_self]
    have q3 : m2.get l = some (.lst ds) := by rw [w4 l hlk (by omega), g1 l r7 hln]; exact r3
    have q4 := isread2_ok q2 q3
    rw [r8, nat_beq] at q4
    have t1 : tNotM (tV (eMeth 1 8 F_Lines_is_read 1 [] (eVar 1) (esNil))) [some (.str t), some (.ref n), some (.ref k), some (.ref m1.next)] m2 = .ok (!Nat.beq (lns t).length 1) m2 := t_not (t_val ((v_meth (v_var rfl) q2 rfl v_nil rfl).trans q4) rfl)
    cases hb : Nat.beq (lns t).length 1 with
    | true =>
      rw [hb] at t1
      exact fn_rt (hhead _ fun e0 he => by rw [he]; exact (s_seq w1).trans ((s_seq ((s_ifF t1).trans s_nil)).trans (s_ret ((v_one (v_var rfl)).trans (tup_of (w2 hfb))))))
    | false =>
      rw [hb] at t1
      exact fn_err (hhead _ fun e0 he => by rw [he]; exact (s_seq w1).trans (s_seqE ((s_ifT t1).trans (s_raise2 (v_cons v_c (v_cons v_c v_nil))))))
theorem read_nil {m : Mem} : F_read_course [.str []] m = .ok (.tup []) m :=
  fn_rt (s_seqR ((s_ifT (t_of ((v_bin (v_var rfl) v_c).trans (eq_str rfl rfl)))).trans (s_ret (v_tup (ds := []) v_nil (by decide)))))
end K81
end

section
set_option Elab.async false
set_option linter.all false
set_option maxRecDepth 100000
set_option autoImplicit false
set_option maxHeartbeats 4000000
namespace Mi
section
variable {e : Lo} {m m1 m2 : Mem} {a b : E} {x d : D} {ic xc : Nat → Bool} {tb : Kd → Option Bool} {t : Kd} {k : Bool} {n : Nat} {ds : List D}
theorem v_is (ha : a e m = .ok x m1) (hk : kindOf ic xc x m1 = some t) (ht : tb t = some k) : eIs ic xc tb a e m = .ok (.bl k) m1 := by
  unfold eIs
  rw [ha]
  show (match kindOf ic xc x m1 with
    | some t => (match tb t with
      | some b => Mi.R.ok (D.bl b) m1
      | none => .bad)
    | none => .bad) = _
  rw [hk]
  show (match tb t with
      | some b => Mi.R.ok (D.bl b) m1
      | none => .bad) = _
  rw [ht]
theorem v_andT (ha : a e m = .ok (.bl true) m1) : eAndM a b e m = b e m1 := by
  unfold eAndM
  rw [ha]
  rfl
theorem v_andF (ha : a e m = .ok (.bl false) m1) : eAndM a b e m = .ok (.bl false) m1 := by
  unfold eAndM
  rw [ha]
  rfl
theorem kind_lst (h : m.get n = some (.lst ds)) : kindOf ic xc (.ref n) m = some .lst := by
  unfold kindOf
  dsimp only
  rw [h]
theorem kind_dic {kv : List (D × D)} (h : m.get n = some (.dic kv)) : kindOf ic xc (.ref n) m = some .dic := by
  unfold kindOf
  dsimp only
  rw [h]
end
end Mi
namespace K81
open Mi Cm
def gA : D → Bool
  | .str w => ansB w
  | _ => false
def elA : E := eAndM (eIs noC noC tb1 (eVar 1)) (eBin opIn (eVar 1) (eC (.tup [.str [121, 101, 115], .str [110, 111]])))
theorem elA_ok {m : Mem} {x : Option D} {d : D} (h : ∀ n, d = .ref n → ∃ xs, m.get n = some (.lst xs)) : elA [x, some d] m = .ok (.bl (gA d)) m := by
  cases d with
  | non => rfl
  | bl _ => rfl
  | int _ => rfl
  | str w => rfl
  | tup _ => rfl
  | ref n =>
    obtain ⟨xs, h⟩ := h n rfl
    exact v_andF (v_is (v_var rfl) (kind_lst h) rfl)
theorem listed_ok {m : Mem} {x : D} {ds : List D} (h : Sq m x ds) : F_is_listed [x] m = .ok (.bl true) m := by
  rcases h with h | ⟨n, h1, h2, h3⟩
  · rw [h]
    rfl
  · rw [h1]
    exact fn_rt (s_ret (v_is (v_var rfl) (kind_lst h3) rfl))
theorem isc_ok {m : Mem} {x : D} {ds : List D} (h : Sq m x ds) (hl : ds.length ≤ 16000000) (hr : ∀ d ∈ ds, ∀ n, d = .ref n → n < m.next ∧ ∃ xs, m.get n = some (.lst xs)) :
    ∃ m', F_is_course [x] m = .ok (.bl (ds.all gA)) m' ∧ Old m.next m m' := by
  obtain ⟨m', e1, o1⟩ := all_seq (e := [some x, none]) (v := 1) (a := eVar 0) (el := elA) (g := gA) (m := m) (v_var rfl) h hl fun m2 o i d hd => elA_ok fun n hn => by
    obtain ⟨h1, xs, h2⟩ := hr d (List.mem_of_getElem? hd) n hn
    exact ⟨xs, by rw [o.get n h1]; exact h2⟩
  exact ⟨m', fn_rt (s_ret ((v_andT ((v_fn (v_cons (v_var rfl) v_nil) rfl).trans (listed_ok h))).trans e1)), o1⟩
/-- course_text of what is none -/
def bc : Xn := ⟨8, [(0, .str [99, 111, 117, 114, 115, 101])]⟩
theorem text_bad {m m' : Mem} {x : D} (h : F_is_course [x] m = .ok (.bl false) m') : F_course_text [x] m = .err bc m' :=
  fn_err (s_seqE ((s_ifT (t_not (t_val ((v_fn (v_cons (v_var rfl) v_nil) rfl).trans h) rfl))).trans (s_raise1 (v_cons v_c v_nil))))
theorem ans_all {ws : List (List Nat)} (h : ∀ w ∈ ws, Ans w) : (ws.map D.str).all gA = true := by
  rw [List.all_map]
  exact List.all_eq_true.mpr fun w hw => ans_of (h w hw)
theorem text_ok {m : Mem} {x : D} {ws : List (List Nat)} (h : Sq m x (ws.map .str)) (hl : lenSum ws + ws.length ≤ 60000) (ha : ∀ w ∈ ws, Ans w) : ∃ m', F_course_text [x] m = .ok (.str (TL.joinL [32] ws)) m' ∧ Old m.next m m' := by
  obtain ⟨m', e1, o1⟩ := isc_ok h (by rw [List.length_map]; omega) (fun d hd n hn => by
    obtain ⟨w, _, hw⟩ := List.mem_map.mp hd
    rw [← hw] at hn
    cases hn)
  rw [ans_all ha] at e1
  refine ⟨m', fn_rt ((s_seq ((s_ifF (t_not (t_val ((v_fn (v_cons (v_var rfl) v_nil) rfl).trans e1) rfl))).trans s_nil)).trans (s_ret (v_join v_c (v_var rfl) (h.old o1) ?_))), o1⟩
  show lenSum ws + ws.length * 1 ≤ _
  omega
end K81
end

section
set_option Elab.async false
set_option linter.all false
set_option maxRecDepth 100000
set_option autoImplicit false
set_option maxHeartbeats 4000000
namespace K81
open Mi Cm
abbrev txt : List Nat := [116, 101, 120, 116]
abbrev prt : List Nat := [112, 97, 114, 116]
abbrev crs : List Nat := [99, 111, 117, 114, 115, 101]
/-! ### _law_heard -/
theorem heard_ok {m : Mem} {d : D} : heardR ce m_rest__law_heard (.ok d m) = .ok (.ref m.next) (m.new (.lst [d])) := rfl
theorem heard_bt {m : Mem} {i n : Nat} : heardR ce m_rest__law_heard (.err (bt i n) m) = .ok (.tup [.str txt, .int i, .int n]) (m.new (.exc 13 [(2, .int n), (1, .int i)])) := by
  have h : (m.new (.exc 13 [(2, .int n), (1, .int i)])).get m.next = some (.exc 13 [(2, .int n), (1, .int i)]) := new_self
  have hk : kindOf noC xc0 (.ref m.next) (m.new (.exc 13 [(2, .int n), (1, .int i)])) = some (.own 13) := by
    unfold kindOf
    dsimp only
    rw [h]
    rfl
  have x1 : getX 1 xc0 (.ref m.next) (m.new (.exc 13 [(2, .int n), (1, .int i)])) = .ok (.int i) (m.new (.exc 13 [(2, .int n), (1, .int i)])) := by
    unfold getX
    dsimp only
    rw [h]
    rfl
  have x2 : getX 2 xc0 (.ref m.next) (m.new (.exc 13 [(2, .int n), (1, .int i)])) = .ok (.int n) (m.new (.exc 13 [(2, .int n), (1, .int i)])) := by
    unfold getX
    dsimp only
    rw [h]
    rfl
  have hx : ∀ f d, getX f xc0 (.ref m.next) (m.new (.exc 13 [(2, .int n), (1, .int i)])) = .ok d (m.new (.exc 13 [(2, .int n), (1, .int i)])) → eXf f xc0 (eVar 2) [none, some .non, some (.ref m.next), none] (m.new (.exc 13 [(2, .int n), (1, .int i)])) = .ok d (m.new (.exc 13 [(2, .int n), (1, .int i)])) := fun f d h => h
  show endR (m_rest__law_heard [none, some .non, some (.ref m.next), none] (m.new (.exc 13 [(2, .int n), (1, .int i)]))) = _
  have e : m_rest__law_heard [none, some .non, some (.ref m.next), none] (m.new (.exc 13 [(2, .int n), (1, .int i)])) = .rt (.tup [.str txt, .int i, .int n]) (m.new (.exc 13 [(2, .int n), (1, .int i)])) :=
    (s_seq ((s_ifF (t_of (m1 := m.new (.exc 13 [(2, .int n), (1, .int i)])) rfl)).trans s_nil)).trans (s_seqR ((s_ifT (t_val (v_is (v_var rfl) hk rfl) rfl)).trans (s_ret (v_tup (v_cons v_c (v_cons (hx _ _ x1) (v_cons (hx _ _ x2) v_nil))) (by show 3 ≤ 16777216; decide)))))
  rw [e]
  rfl
theorem heard_bc {m : Mem} : heardR ce m_rest__law_heard (.err bc m) = .ok (.tup [.str prt, .str crs]) (m.new (.exc 8 [(0, .str crs)])) := by
  have h : (m.new (.exc 8 [(0, .str crs)])).get m.next = some (.exc 8 [(0, .str crs)]) := new_self
  have hk : kindOf noC xc0 (.ref m.next) (m.new (.exc 8 [(0, .str crs)])) = some (.own 8) := by
    unfold kindOf
    dsimp only
    rw [h]
    rfl
  have x1 : getX 0 xc0 (.ref m.next) (m.new (.exc 8 [(0, .str crs)])) = .ok (.str crs) (m.new (.exc 8 [(0, .str crs)])) := by
    unfold getX
    dsimp only
    rw [h]
    rfl
  have hx : ∀ f d, getX f xc0 (.ref m.next) (m.new (.exc 8 [(0, .str crs)])) = .ok d (m.new (.exc 8 [(0, .str crs)])) → eXf f xc0 (eVar 2) [none, some .non, some (.ref m.next), none] (m.new (.exc 8 [(0, .str crs)])) = .ok d (m.new (.exc 8 [(0, .str crs)])) := fun f d h => h
  show endR (m_rest__law_heard [none, some .non, some (.ref m.next), none] (m.new (.exc 8 [(0, .str crs)]))) = _
  have e : m_rest__law_heard [none, some .non, some (.ref m.next), none] (m.new (.exc 8 [(0, .str crs)])) = .rt (.tup [.str prt, .str crs]) (m.new (.exc 8 [(0, .str crs)])) :=
    (s_seq ((s_ifF (t_of (m1 := m.new (.exc 8 [(0, .str crs)])) rfl)).trans s_nil)).trans ((s_seq ((s_ifF (t_val (v_is (v_var rfl) hk rfl) rfl)).trans s_nil)).trans (s_seqR ((s_ifT (t_val (v_is (v_var rfl) hk rfl) rfl)).trans (s_ret (v_tup (v_cons v_c (v_cons (hx _ _ x1) v_nil)) (by decide))))))
  rw [e]
  rfl
/-! ### _law_bad -/
def bB : Sm := sIf (tOf (eBin opNotIn (eVar 3) (eTup (esCons (eC (.str [121, 101, 115])) (esCons (eC (.str [110, 111])) (esNil)))))) (sRet (eTup (esCons (eC (.str [116, 101, 120, 116])) (esCons (eC (.int 0)) (esCons (eVar 2) (esNil)))))) (sNil)
def bG : Tg := gT 2 (gsCons (gN 2) (gsCons (gN 3) (gsNil)))
theorem bad_loop {n : Nat} {ws : List (List Nat)} {m : Mem} (hn : m.get n = some (.lst (ws.map .str))) :
    ∀ (f i : Nat) (e : Lo), i + f = ws.length → e.length = 4 →
      ∃ e', sForL (f + 1) i (itEnum n) bG bB e m = (match fb (ws.drop i) i with | none => .nx e' m | some j => .rt (.tup [.str txt, .int 0, .int j]) m) ∧ e'[0]? = e[0]? := by
  intro f
  induction f with
  | zero =>
    intro i e h he
    have hi : itEnum n i m = some none := by
      unfold itEnum
      rw [lstOf_lst hn]
      show some ((ws.map D.str)[i]?.map _) = _
      rw [List.getElem?_eq_none (by rw [List.length_map]; omega)]
      rfl
    refine ⟨e, ?_, rfl⟩
    rw [List.drop_eq_nil_of_le (by omega)]
    show (match itEnum n i m with
      | none => RS.bad
      | some none => .nx e m
      | some (some d) => _) = _
    rw [hi]
    rfl
  | succ f ih =>
    intro i e h he
    have hlt : i < ws.length := by omega
    have hi : itEnum n i m = some (some (.tup [.int i, .str ws[i]])) := by
      unfold itEnum
      rw [lstOf_lst hn]
      show some ((ws.map D.str)[i]?.map _) = _
      rw [List.getElem?_map, List.getElem?_eq_getElem hlt]
      rfl
    have g2 : ((e.set 2 (some (.int i))).set 3 (some (.str ws[i])))[2]? = some (some (.int i)) := by
      rw [List.getElem?_set_ne (by decide), List.getElem?_set_self (by omega)]
    have g3 : ((e.set 2 (some (.int i))).set 3 (some (.str ws[i])))[3]? = some (some (.str ws[i])) := by
      rw [List.getElem?_set_self (by rw [List.length_set]; omega)]
    have g0 : ((e.set 2 (some (.int i))).set 3 (some (.str ws[i])))[0]? = e[0]? := by
      rw [List.getElem?_set_ne (by decide), List.getElem?_set_ne (by decide)]
    obtain ⟨e', r1, r2⟩ := ih (i + 1) ((e.set 2 (some (.int i))).set 3 (some (.str ws[i]))) (by omega) (by rw [List.length_set, List.length_set]; exact he)
    have tst : tOf (eBin opNotIn (eVar 3) (eTup (esCons (eC (.str [121, 101, 115])) (esCons (eC (.str [110, 111])) (esNil))))) ((e.set 2 (some (.int i))).set 3 (some (.str ws[i]))) m = .ok (!ansB ws[i]) m :=
      t_of ((v_bin (v_var g3) (v_tup (v_cons v_c (v_cons v_c v_nil)) (by decide))).trans rfl)
    have hd : ws.drop i = ws[i] :: ws.drop (i + 1) := List.drop_eq_getElem_cons hlt
    refine ⟨e', ?_, r2.trans g0⟩
    rw [hd]
    show (match itEnum n i m with
      | none => RS.bad
      | some none => .nx e m
      | some (some d) => (match bG d e m with
        | .nx e1 m1 => (match bB e1 m1 with
          | .nx e2 m2 => sForL (f + 1) (i + 1) (itEnum n) bG bB e2 m2
          | .ct e2 m2 => sForL (f + 1) (i + 1) (itEnum n) bG bB e2 m2
          | .bk e2 m2 => .nx e2 m2
          | r => r)
        | .err x m1 => .err x m1
        | _ => .bad)) = (match (match ansB ws[i] with
          | true => fb (ws.drop (i + 1)) (i + 1)
          | false => some i) with | none => RS.nx e' m | some j => .rt (.tup [.str txt, .int 0, .int j]) m)
    rw [hi]
    show (match bB ((e.set 2 (some (.int i))).set 3 (some (.str ws[i]))) m with
          | .nx e2 m2 => sForL (f + 1) (i + 1) (itEnum n) bG bB e2 m2
          | .ct e2 m2 => sForL (f + 1) (i + 1) (itEnum n) bG bB e2 m2
          | .bk e2 m2 => .nx e2 m2
          | r => r) = _
    cases hb : ansB ws[i] with
    | true =>
      rw [hb] at tst
      have e1 : bB ((e.set 2 (some (.int i))).set 3 (some (.str ws[i]))) m = .nx ((e.set 2 (some (.int i))).set 3 (some (.str ws[i]))) m := (s_ifF tst).trans s_nil
      rw [e1]
      exact r1
    | false =>
      rw [hb] at tst
      have e1 : bB ((e.set 2 (some (.int i))).set 3 (some (.str ws[i]))) m = .rt (.tup [.str txt, .int 0, .int i]) m := (s_ifT tst).trans (s_ret (v_tup (v_cons v_c (v_cons v_c (v_cons (v_var g2) v_nil))) (by show 3 ≤ 16777216; decide)))
      rw [e1]
def badR (t : List Nat) : D := match fb (wds ((lns t).headD [])) 0 with
  | some n => .tup [.str txt, .int 0, .int n]
  | none => match decide (10 ∈ t) with
    | true => .tup [.str txt, .int 1, .int 0]
    | false => .non
theorem enum_ok {e : Lo} {m m1 : Mem} {a : E} {n : Nat} {xs : List D} (ha : a e m = .ok (.ref n) m1) (h : m1.get n = some (.lst xs)) : srcEnum (esCons a (esNil)) e m = .ok (xs.length + 1, itEnum n) m1 := by
  unfold srcEnum
  rw [v_cons ha v_nil]
  show (match lstOf m1 n with
    | some xs => Mi.R.ok (xs.length + 1, itEnum n) m1
    | none => .bad) = _
  rw [lstOf_lst h]
theorem s_for {e : Lo} {m m1 : Mem} {s : Src} {g : Tg} {b : Sm} {f : Nat} {it : Itm} (h : s e m = .ok (f, it) m1) : sFor s g b e m = sForL f 0 it g b e m1 := by
  unfold sFor
  rw [h]
  rfl
def bW : E := eIf (tOf (eBin opNe (eVar 0) (eC (.str [])))) (eSplit (eBin opIx (eSplit (eVar 0) (eC (.str [10]))) (eC (.int 0))) (eC (.str [32]))) (eLst (esNil))
theorem bad_of {m m1 : Mem} {t : List Nat} {n : Nat} {ws : List (List Nat)} (hw : bW [some (.str t), none, none, none] m = .ok (.ref n) m1) (hn : m1.get n = some (.lst (ws.map .str))) :
    F__law_bad [.str t] m = .ok (match fb ws 0 with | some n => .tup [.str txt, .int 0, .int n] | none => match decide (10 ∈ t) with | true => .tup [.str txt, .int 1, .int 0] | false => .non) m1 := by
  obtain ⟨e', r1, r2⟩ := bad_loop hn ws.length 0 [some (.str t), some (.ref n), none, none] (by omega) rfl
  rw [List.drop_zero] at r1
  have hf : sFor (srcEnum (esCons (eVar 1) (esNil))) bG bB [some (.str t), some (.ref n), none, none] m1 = sForL (ws.length + 1) 0 (itEnum n) bG bB [some (.str t), some (.ref n), none, none] m1 := by
    have := s_for (g := bG) (b := bB) (enum_ok (e := [some (.str t), some (.ref n), none, none]) (a := eVar 1) (v_var rfl) hn)
    rw [List.length_map] at this
    exact this
  cases hfb : fb ws 0 with
  | some j =>
    rw [hfb] at r1
    exact fn_rt ((s_seq (s_set hw)).trans (s_seqR (hf.trans r1)))
  | none =>
    rw [hfb] at r1
    refine fn_rt ((s_seq (s_set hw)).trans ((s_seq (hf.trans r1)).trans (s_ret (v_if (t_of ((v_bin v_c (v_var (r2.trans rfl))).trans rfl)) ?_))))
    cases decide (10 ∈ t) <;> rfl
theorem bad_ok {m : Mem} {t : List Nat} (ht : t.length ≤ 60000) (hc : cpOk t = true) (hne : t ≠ []) : ∃ m', F__law_bad [.str t] m = .ok (badR t) m' ∧ Old m.next m m' := by
  have c0 : (tOf (eBin Mi.opNe (eVar 0) (eC (.str [])))) [some (.str t), none, none, none] m = .ok true m := by
    refine t_of ((v_bin (v_var rfl) v_c).trans ((ne_str hc rfl).trans ?_))
    cases t with
    | nil => exact absurd rfl hne
    | cons _ _ => rfl
  have hL : lns t ≠ [] := spl_ne _ _ _ _
  obtain ⟨f, rest, hfr⟩ := List.exists_cons_of_ne_nil hL
  have hf : (lns t).headD [] = f := by rw [hfr]; rfl
  have h2 := spl_plen [10] t 0 [] f (by show f ∈ lns t; rw [hfr]; exact List.mem_cons_self)
  simp at h2
  have e1 : bW [some (.str t), none, none, none] m = .ok (.ref (m.new (.lst ((lns t).map .str))).next) ((m.new (.lst ((lns t).map .str))).new (.lst ((wds f).map .str))) :=
    v_if c0 (v_split ((v_bin (v_split (v_var rfl) v_c (by omega) (by decide)) v_c).trans (ix_at new_self (by
      show ixD ((lns t).map .str) ((0 : Nat) : Int) = some (.str f)
      exact ixD_nat (by rw [hfr]; rfl)))) v_c (by omega) (by decide))
  have e2 := bad_of e1 new_self
  refine ⟨(m.new (.lst ((lns t).map .str))).new (.lst ((wds f).map .str)), ?_, ((Old.refl _ _).new (Nat.le_refl _) _).new (Nat.le_succ _) _⟩
  unfold badR
  rw [hf]
  exact e2
theorem bad_nil {m : Mem} : ∃ m', F__law_bad [.str []] m = .ok .non m' ∧ Old m.next m m' := by
  have e1 : bW [some (.str []), none, none, none] m = .ok (.ref m.next) (m.new (.lst [])) :=
    v_if (k := false) (t_of ((v_bin (v_var rfl) v_c).trans (ne_str rfl rfl))) (v_lst (ds := []) v_nil (by decide))
  exact ⟨_, (bad_of (ws := []) e1 new_self).trans rfl, (Old.refl _ _).new (Nat.le_refl _) _⟩
end K81
end

section
set_option Elab.async false
set_option linter.all false
set_option maxRecDepth 100000
set_option autoImplicit false
set_option maxHeartbeats 4000000
namespace Mi
theorem v_heard {ce : Nat → Bool} {cr : Sm} {c : E} {e : Lo} {m : Mem} {r : Mi.R D} (h : c e m = r) : eHeard ce cr c e m = heardR ce cr r := by
  unfold eHeard
  rw [h]
theorem v_ifT {t : Et} {a b : E} {e : Lo} {m m1 : Mem} {r : Mi.R D} (h : t e m = .ok true m1) (hr : a e m1 = r) : eIf t a b e m = r := v_if h hr
theorem v_ifF {t : Et} {a b : E} {e : Lo} {m m1 : Mem} {r : Mi.R D} (h : t e m = .ok false m1) (hr : b e m1 = r) : eIf t a b e m = r := v_if h hr
theorem v_notN {e : Lo} {m m1 : Mem} {a : E} {x : D} (h : a e m = .ok x m1) : eNotN a e m = .ok (.bl (!x.isNon)) m1 := by
  unfold eNotN
  rw [h]
  rfl
end Mi
namespace K81
open Mi Cm
def bTst : E := eBin Mi.opNe (eHeard ce (m_rest__law_heard) (eFn F_read_course 1 [] (esCons (eVar 8) (esNil)))) (eIf (tOf (eNotN (eVar 9))) (eVar 9) (eLst (esCons (eIf (tOf (eBin Mi.opNe (eVar 8) (eC (.str [])))) (eCall fTuple (esCons (eSplit (eVar 8) (eC (.str [32]))) (esNil))) (eTup (esNil))) (esNil))))
def bBody : Sm := sSeq (sSet 9 (eFn F__law_bad 1 [] (esCons (eVar 8) (esNil)))) (sIf (tOf bTst) (sRet (eC (.bl false))) (sNil))
theorem bt_tst {e : Lo} {m : Mem} {t : List Nat} {d : D} (h8 : e[8]? = some (some (.str t))) (h9 : e[9]? = some (some d)) (hd : d = if t = [] then .non else badR t) (ht : t.length ≤ 60000) (hc : cpOk t = true) : ∃ m', bTst e m = .ok (.bl false) m' ∧ Old m.next m m' := by
  by_cases hne : t = []
  · rw [if_pos hne] at hd
    subst hne hd
    have e1 : eHeard ce (m_rest__law_heard) (eFn F_read_course 1 [] (esCons (eVar 8) (esNil))) e m = .ok (.ref m.next) (m.new (.lst [.tup []])) := (v_heard ((v_fn (v_cons (v_var h8) v_nil) rfl).trans read_nil)).trans heard_ok
    have e2 : (eIf (tOf (eBin Mi.opNe (eVar 8) (eC (.str [])))) (eCall fTuple (esCons (eSplit (eVar 8) (eC (.str [32]))) (esNil))) (eTup (esNil))) e (m.new (.lst [.tup []])) = .ok (.tup []) (m.new (.lst [.tup []])) :=
      v_ifF (t_of ((v_bin (v_var h8) v_c).trans (ne_str rfl rfl))) (v_tup (ds := []) v_nil (by decide))
    have e3 : (eIf (tOf (eNotN (eVar 9))) (eVar 9) (eLst (esCons (eIf (tOf (eBin Mi.opNe (eVar 8) (eC (.str [])))) (eCall fTuple (esCons (eSplit (eVar 8) (eC (.str [32]))) (esNil))) (eTup (esNil))) (esNil)))) e (m.new (.lst [.tup []])) = .ok (.ref (m.new (.lst [.tup []])).next) ((m.new (.lst [.tup []])).new (.lst [.tup []])) :=
      v_ifF (t_of (v_notN (v_var h9))) (v_lst (v_cons e2 v_nil) (by show 1 ≤ 16777216; decide))
    refine ⟨_, (v_bin e1 e3).trans (eqG_ltup (ws := []) (by rw [new_lt (Nat.lt_succ_self _), new_self]; rfl) new_self (fun w hw => by cases hw)), ((Old.refl _ _).new (Nat.le_refl _) _).new (Nat.le_succ _) _⟩
  · rw [if_neg hne] at hd
    obtain ⟨m1, r1, o1⟩ := read_ok (m := m) ht hc hne
    have e0 : eHeard ce (m_rest__law_heard) (eFn F_read_course 1 [] (esCons (eVar 8) (esNil))) e m = heardR ce m_rest__law_heard (readR t m1) := v_heard ((v_fn (v_cons (v_var h8) v_nil) rfl).trans r1)
    have bad : ∀ i n : Nat, readR t m1 = .err (bt i n) m1 → badR t = .tup [.str txt, .int i, .int n] → ∃ m', bTst e m = .ok (.bl false) m' ∧ Old m.next m m' := fun i n q1 q2 => by
      rw [q1] at e0
      have e1 := e0.trans heard_bt
      rw [hd, q2] at h9
      refine ⟨_, (v_bin e1 (v_ifT (t_of (v_notN (v_var h9))) (v_var h9))).trans (eqG_tii rfl), o1.new o1.next _⟩
    cases hfb : fb (wds ((lns t).headD [])) 0 with
    | some n => exact bad 0 n (by unfold readR; rw [hfb]) (by unfold badR; rw [hfb]; rfl)
    | none =>
      by_cases hm : 10 ∈ t
      · have h2 : Nat.beq (lns t).length 1 = false := by
          have := spl_two (acc := []) hm
          cases z : Nat.beq (lns t).length 1 with
          | false => rfl
          | true =>
            have z := Nat.eq_of_beq_eq_true z
            have : 2 ≤ (lns t).length := this
            omega
        exact bad 1 0 (by unfold readR; rw [hfb]; show (match Nat.beq (lns t).length 1 with | true => _ | false => _) = _; rw [h2]) (by unfold badR; rw [hfb]; show (match decide (10 ∈ t) with | true => _ | false => _) = _; rw [decide_eq_true hm]; rfl)
      · have h1 : lns t = [t] := spl_one hm
        have q1 : readR t m1 = .ok (.tup ((wds t).map .str)) m1 := by
          unfold readR
          rw [hfb, h1]
          rfl
        have q2 : badR t = .non := by
          unfold badR
          rw [hfb]
          show (match decide (10 ∈ t) with | true => _ | false => _) = _
          rw [decide_eq_false hm]
        rw [q1] at e0
        rw [hd, q2] at h9
        have e1 := e0.trans heard_ok
        have ht' : (!(t == ([] : List Nat))) = true := by
          cases t with
          | nil => exact absurd rfl hne
          | cons _ _ => rfl
        have e2 : (eIf (tOf (eBin Mi.opNe (eVar 8) (eC (.str [])))) (eCall fTuple (esCons (eSplit (eVar 8) (eC (.str [32]))) (esNil))) (eTup (esNil))) e (m1.new (.lst [.tup ((wds t).map .str)])) = .ok (.tup ((wds t).map .str)) ((m1.new (.lst [.tup ((wds t).map .str)])).new (.lst ((wds t).map .str))) :=
          v_ifT (t_of ((v_bin (v_var h8) v_c).trans ((ne_str hc rfl).trans (by rw [ht'])))) ((v_one (v_split (v_var h8) v_c (by omega) (by decide))).trans (tup_of new_self))
        have e3 : (eIf (tOf (eNotN (eVar 9))) (eVar 9) (eLst (esCons (eIf (tOf (eBin Mi.opNe (eVar 8) (eC (.str [])))) (eCall fTuple (esCons (eSplit (eVar 8) (eC (.str [32]))) (esNil))) (eTup (esNil))) (esNil)))) e (m1.new (.lst [.tup ((wds t).map .str)])) = .ok (.ref ((m1.new (.lst [.tup ((wds t).map .str)])).new (.lst ((wds t).map .str))).next) (((m1.new (.lst [.tup ((wds t).map .str)])).new (.lst ((wds t).map .str))).new (.lst [.tup ((wds t).map .str)])) :=
          v_ifF (t_of (v_notN (v_var h9))) (v_lst (v_cons e2 v_nil) (by show 1 ≤ 16777216; decide))
        refine ⟨_, (v_bin e1 e3).trans (eqG_ltup (ws := wds t) ?_ new_self (spl_cp hc)), ((o1.new o1.next _).new (Nat.le_succ_of_le o1.next) _).new (Nat.le_succ_of_le (Nat.le_succ_of_le o1.next)) _⟩
        rw [new_lt (Nat.lt_succ_of_lt (Nat.lt_succ_self _)), new_lt (Nat.lt_succ_self _), new_self]
/-- the two statements on a bent text -/
theorem bent_ok {e : Lo} {m : Mem} {t : List Nat} (he : e.length = 12) (h8 : e[8]? = some (some (.str t))) (ht : t.length ≤ 60000) (hc : cpOk t = true) : ∃ d m', bBody e m = .nx (e.set 9 (some d)) m' ∧ Old m.next m m' := by
  have hb : ∃ m1, F__law_bad [.str t] m = .ok (if t = [] then .non else badR t) m1 ∧ Old m.next m m1 := by
    by_cases hne : t = []
    · rw [if_pos hne, hne]
      exact bad_nil
    · rw [if_neg hne]
      exact bad_ok ht hc hne
  obtain ⟨m1, b1, o1⟩ := hb
  have h8' : (e.set 9 (some (if t = [] then D.non else badR t)))[8]? = some (some (.str t)) := by rw [List.getElem?_set_ne (by decide)]; exact h8
  have h9' : (e.set 9 (some (if t = [] then D.non else badR t)))[9]? = some (some (if t = [] then D.non else badR t)) := List.getElem?_set_self (by omega)
  obtain ⟨m2, t1, o2⟩ := bt_tst (m := m1) h8' h9' rfl ht hc
  exact ⟨_, m2, (s_seq (s_set ((v_fn (v_cons (v_var h8) v_nil) rfl).trans b1))).trans ((s_ifF (t_of t1)).trans s_nil), o1.trans (o2.less o1.next)⟩
end K81
end

section
set_option Elab.async false
set_option linter.all false
set_option maxRecDepth 100000
set_option autoImplicit false
set_option maxHeartbeats 4000000
namespace K81
open Mi Cm
theorem ans_cp {w : List Nat} (h : Ans w) : cpOk w = true := by
  rcases h with h | h <;> rw [h] <;> rfl
theorem ans_len {w : List Nat} (h : Ans w) : w.length ≤ 3 := by
  rcases h with h | h <;> rw [h] <;> decide
theorem ans_ne {w : List Nat} (h : Ans w) : w ≠ [] := by
  rcases h with h | h <;> rw [h] <;> decide
theorem ans_32 {w : List Nat} (h : Ans w) : 32 ∉ w := by
  rcases h with h | h <;> rw [h] <;> decide
theorem ans_10 {w : List Nat} (h : Ans w) : 10 ∉ w := by
  rcases h with h | h <;> rw [h] <;> decide
theorem ans_sum {ws : List (List Nat)} (h : ∀ w ∈ ws, Ans w) : lenSum ws ≤ 3 * ws.length := by
  induction ws with
  | nil => exact Nat.zero_le _
  | cons w r ih =>
    have h1 := ans_len (h w List.mem_cons_self)
    have h2 := ih fun z hz => h z (List.mem_cons_of_mem _ hz)
    show w.length + lenSum r ≤ 3 * (r.length + 1)
    omega
theorem join_10 : ∀ {ws : List (List Nat)}, (∀ w ∈ ws, Ans w) → 10 ∉ TL.joinL [32] ws
  | [], _ => by intro h; cases h
  | [p], h => ans_10 (h p (List.mem_singleton.mpr rfl))
  | p :: q :: r, h => by
    intro z
    have z : 10 ∈ p ++ ([32] ++ TL.joinL [32] (q :: r)) := z
    rcases List.mem_append.mp z with z | z
    · exact ans_10 (h p List.mem_cons_self) z
    · rcases List.mem_append.mp z with z | z
      · exact absurd (List.mem_singleton.mp z) (by decide)
      · exact join_10 (fun w hw => h w (List.mem_cons_of_mem _ hw)) z
theorem fb_none : ∀ {ws : List (List Nat)} (n : Nat), (∀ w ∈ ws, Ans w) → fb ws n = none
  | [], _, _ => rfl
  | w :: r, n, h => by
    show (match ansB w with | true => fb r (n + 1) | false => some n) = none
    rw [ans_of (h w List.mem_cons_self)]
    exact fb_none (n + 1) fun z hz => h z (List.mem_cons_of_mem _ hz)
theorem join_ne {ws : List (List Nat)} (h : ∀ w ∈ ws, Ans w) (hne : ws ≠ []) : TL.joinL [32] ws ≠ [] := by
  match ws, h, hne with
  | [p], h, _ => exact ans_ne (h p (List.mem_singleton.mpr rfl))
  | p :: q :: r, h, _ =>
    intro z
    have z : p ++ ([32] ++ TL.joinL [32] (q :: r)) = [] := z
    rw [List.append_eq_nil_iff] at z
    exact ans_ne (h p List.mem_cons_self) z.1
/-- a course's own text is read back -/
theorem read_text {m : Mem} {cs : List (List Nat)} (h : ∀ w ∈ cs, Ans w) (hl : cs.length ≤ 4500) : ∃ m', F_read_course [.str (TL.joinL [32] cs)] m = .ok (.tup (cs.map .str)) m' ∧ Old m.next m m' := by
  by_cases hne : cs = []
  · rw [hne]
    exact ⟨m, read_nil, Old.refl _ _⟩
  · have hs := ans_sum h
    have hj := join_len (s := [32]) cs
    have hj2 : (TL.joinL [32] cs).length ≤ 60000 := by
      have : [32].length = 1 := rfl
      rw [this] at hj
      omega
    obtain ⟨m', e1, o1⟩ := read_ok (m := m) (t := TL.joinL [32] cs) hj2 (cpOk_join rfl fun w hw => ans_cp (h w hw)) (join_ne h hne)
    refine ⟨m', e1.trans ?_, o1⟩
    have h1 : lns (TL.joinL [32] cs) = [TL.joinL [32] cs] := spl_one (join_10 h)
    have h2 : wds (TL.joinL [32] cs) = cs := TL.spl_join hne fun p hp => ans_32 (h p hp)
    unfold readR
    rw [h1]
    show (match fb (wds (TL.joinL [32] cs)) 0 with
      | some n => Mi.R.err (bt 0 n) m'
      | none => match Nat.beq 1 1 with
        | true => .ok (D.tup ((wds (TL.joinL [32] cs)).map D.str)) m'
        | false => .err (bt 1 0) m') = _
    rw [h2, fb_none 0 h]
theorem mul_course {m : Mem} {ws : List (List Nat)} {d : D} (h : ∀ w ∈ ws, Ans w) (hl : ws.length ≤ 9) (hd : d ∈ [D.int 1, D.int 1, D.int 500]) : ∃ cs : List (List Nat), Mi.opMul (.tup (ws.map .str)) d m = .ok (.tup (cs.map .str)) m ∧ (∀ w ∈ cs, Ans w) ∧ cs.length ≤ 4500 := by
  have one : ∃ cs : List (List Nat), Mi.opMul (.tup (ws.map .str)) (.int 1) m = .ok (.tup (cs.map .str)) m ∧ (∀ w ∈ cs, Ans w) ∧ cs.length ≤ 4500 := by
    refine ⟨ws, ?_, h, by omega⟩
    show (match ((ws.map D.str).isEmpty || ((1 : Int) == 1)) && decide ((-1000 : Int) ≤ 1) && decide ((1 : Int) ≤ 1000) with
      | true => Mi.R.ok (D.tup (ws.map .str)) m
      | false => _) = _
    have e : ((ws.map D.str).isEmpty || ((1 : Int) == 1)) = true := by
      rw [beq_self_eq_true, Bool.or_true]
    rw [e]
    rfl
  rcases List.mem_cons.mp hd with hd | hd
  · rw [hd]; exact one
  rcases List.mem_cons.mp hd with hd | hd
  · rw [hd]; exact one
  rw [List.mem_singleton.mp hd]
  cases ws with
  | nil => exact ⟨[], rfl, h, by decide⟩
  | cons w r =>
    refine ⟨(List.replicate 500 (w :: r)).flatten, ?_, fun z hz => ?_, ?_⟩
    · show (match decide ((2 : Int) ≤ 500) && decide ((500 : Int) ≤ 1000) && Nat.ble ((w :: r).map D.str).length 1000 && true with
        | true => Mi.R.ok (D.tup (List.replicate 500 ((w :: r).map D.str)).flatten) m
        | false => .bad) = _
      have e : Nat.ble ((w :: r).map D.str).length 1000 = true := Nat.ble_eq_true_of_le (by rw [List.length_map]; omega)
      rw [e, List.map_flatten, List.map_replicate]
      rfl
    · obtain ⟨l, hl, hz⟩ := List.mem_flatten.mp hz
      rw [(List.mem_replicate.mp hl).2] at hz
      exact h z hz
    · rw [List.length_flatten, List.map_replicate, List.sum_replicate_nat]
      omega
end K81
end

section
set_option Elab.async false
set_option linter.all false
set_option maxRecDepth 100000
set_option autoImplicit false
set_option maxHeartbeats 4000000
namespace Mi
theorem cut_map {α β : Type} (f : α → β) (xs : List α) (lo hi : Option Int) : cutD (xs.map f) lo hi = (cutD xs lo hi).map f := by
  unfold cutD
  rw [List.length_map, List.map_take, List.map_drop]
theorem cut_mem {α : Type} {xs : List α} {lo hi : Option Int} : ∀ x ∈ cutD xs lo hi, x ∈ xs := fun x h => List.mem_of_mem_drop (List.mem_of_mem_take h)
theorem cut_len {α : Type} {xs : List α} {lo hi : Option Int} : (cutD xs lo hi).length ≤ xs.length := by
  unfold cutD
  rw [List.length_take, List.length_drop]
  omega
theorem cut_sum {xs : List (List Nat)} {lo hi : Option Int} : lenSum (cutD xs lo hi) ≤ lenSum xs := by
  unfold cutD
  have h1 := lenSum_take (HT.sIx xs.length 0 lo) xs
  have h2 := lenSum_take (HT.sIx xs.length xs.length hi - HT.sIx xs.length 0 lo) (xs.drop (HT.sIx xs.length 0 lo))
  omega
theorem v_sl {e : Lo} {m m1 m2 m3 : Mem} {a : E} {lo hi : Eo} {n : Nat} {l h : Option Int} {xs : List D} (ha : a e m = .ok (.ref n) m1) (hlo : lo e m1 = .ok l m2) (hhi : hi e m2 = .ok h m3) (hm : m3.get n = some (.lst xs)) : eSl a lo hi e m = .ok (.ref m3.next) (m3.new (.lst (cutD xs l h))) := by
  unfold eSl
  rw [ha]
  show (lo e m1).bind _ = _
  rw [hlo]
  show (hi e m2).bind _ = _
  rw [hhi]
  show (match lstOf m3 n with
    | some xs => Mi.R.ok (D.ref m3.next) (m3.new (.lst (cutD xs l h)))
    | none => .bad) = _
  rw [lstOf_lst hm]
theorem o_some {e : Lo} {m m1 : Mem} {a : E} {j : Int} (h : a e m = .ok (.int j) m1) : oSome a e m = .ok (some j) m1 := by
  unfold oSome
  rw [h]
  rfl
theorem add_lst {m : Mem} {n k : Nat} {a b : List D} (h1 : m.get n = some (.lst a)) (h2 : m.get k = some (.lst b)) (hl : a.length + b.length ≤ 16777216) : Mi.opAdd (.ref n) (.ref k) m = .ok (.ref m.next) (m.new (.lst (a ++ b))) := by
  show (match m.get n, m.get k with
    | some (.lst a), some (.lst b) => (match lineOk (a.length + b.length) with
      | true => Mi.R.ok (D.ref m.next) (m.new (.lst (a ++ b)))
      | false => .bad)
    | _, _ => .bad) = _
  rw [h1, h2]
  show (match lineOk (a.length + b.length) with
      | true => Mi.R.ok (D.ref m.next) (m.new (.lst (a ++ b)))
      | false => .bad) = _
  rw [lineOk_of hl]
theorem add_str {m : Mem} {a b : List Nat} (hl : a.length + b.length ≤ 16777216) : Mi.opAdd (.str a) (.str b) m = .ok (.str (a ++ b)) m := by
  show (match lineOk (a.length + b.length) with
      | true => Mi.R.ok (D.str (a ++ b)) m
      | false => .bad) = _
  rw [lineOk_of hl]
end Mi
namespace K81
open Mi Cm
/-- a text of the law -/
def Tx (d : D) : Prop := ∃ t, d = .str t ∧ t.length ≤ 60000 ∧ cpOk t = true
/-- words cut, one put between, joined -/
theorem bend_ok {e : Lo} {m : Mem} {W : Nat} {vs : List (List Nat)} {at_ j : Int} {o : List Nat} {lo : Eo} (h5 : e[5]? = some (some (.ref W))) (h6 : e[6]? = some (some (.int at_))) (h7 : e[7]? = some (some (.str o))) (hlo : ∀ m, lo e m = .ok (some j) m)
    (hW : m.get W = some (.lst (vs.map .str))) (hWn : W < m.next) (hv : ∀ w ∈ vs, cpOk w = true) (hs : lenSum vs ≤ 14000) (hl : vs.length ≤ 5000) (ho : cpOk o = true) (hol : o.length ≤ 20) :
    ∃ d m', eJoin (eC (.str [32])) (eBin Mi.opAdd (eBin Mi.opAdd (eSl (eVar 5) oNone (oSome (eVar 6))) (eLst (esCons (eVar 7) (esNil)))) (eSl (eVar 5) lo oNone)) e m = .ok d m' ∧ Tx d ∧ Old m.next m m' := by
  have c1 := v_sl (a := eVar 5) (lo := oNone) (hi := oSome (eVar 6)) (e := e) (m := m) (v_var h5) rfl (o_some (v_var h6)) hW
  rw [cut_map] at c1
  have o1 : Old m.next m (m.new (.lst ((cutD vs none (some at_)).map D.str))) := (Old.refl _ _).new (Nat.le_refl _) _
  have c2 : (eLst (esCons (eVar 7) (esNil))) e (m.new (.lst ((cutD vs none (some at_)).map D.str))) = .ok (.ref (m.next + 1)) ((m.new (.lst ((cutD vs none (some at_)).map D.str))).new (.lst [.str o])) := v_lst (v_cons (v_var h7) v_nil) (by show 1 ≤ 16777216; decide)
  have o2 := o1.new o1.next (.lst [.str o])
  have l1 : (cutD vs none (some at_)).length ≤ vs.length := cut_len
  have l2 : (cutD vs (some j) none).length ≤ vs.length := cut_len
  have c3 := (v_bin (f := Mi.opAdd) c1 c2).trans (add_lst (a := (cutD vs none (some at_)).map D.str) (b := [.str o]) (by rw [new_lt (Nat.lt_succ_self _), new_self]) new_self (by rw [List.length_map]; show _ + 1 ≤ _; omega))
  have o3 := o2.new o2.next (.lst ((cutD vs none (some at_)).map D.str ++ [.str o]))
  have c4 := v_sl (a := eVar 5) (lo := lo) (hi := oNone) (e := e) (m := ((m.new (.lst ((cutD vs none (some at_)).map D.str))).new (.lst [.str o])).new (.lst ((cutD vs none (some at_)).map D.str ++ [.str o]))) (v_var h5) (hlo _) rfl (by rw [o3.get W hWn]; exact hW)
  rw [cut_map] at c4
  have o4 := o3.new o3.next (.lst ((cutD vs (some j) none).map D.str))
  have c5 := (v_bin (f := Mi.opAdd) c3 c4).trans (add_lst (a := (cutD vs none (some at_)).map D.str ++ [.str o]) (b := (cutD vs (some j) none).map D.str) (by rw [new_lt (Nat.lt_succ_self _), new_self]) new_self (by rw [List.length_append, List.length_map, List.length_map]; show _ + 1 + _ ≤ _; omega))
  have o5 := o4.new o4.next (.lst ((cutD vs none (some at_)).map D.str ++ [.str o] ++ (cutD vs (some j) none).map D.str))
  have he : (cutD vs none (some at_)).map D.str ++ [.str o] ++ (cutD vs (some j) none).map D.str = (cutD vs none (some at_) ++ [o] ++ cutD vs (some j) none).map D.str := by
    rw [List.map_append, List.map_append]
    rfl
  have s1 : lenSum (cutD vs none (some at_)) ≤ lenSum vs := cut_sum
  have s2 : lenSum (cutD vs (some j) none) ≤ lenSum vs := cut_sum
  have s3 : lenSum (cutD vs none (some at_) ++ [o] ++ cutD vs (some j) none) ≤ 28020 := by
    rw [lenSum_app, lenSum_app]
    show _ + (o.length + 0) + _ ≤ _
    omega
  have l3 : (cutD vs none (some at_) ++ [o] ++ cutD vs (some j) none).length ≤ 10001 := by
    rw [List.length_append, List.length_append]
    show _ + 1 + _ ≤ _
    omega
  have hall : ∀ w ∈ cutD vs none (some at_) ++ [o] ++ cutD vs (some j) none, cpOk w = true := fun w hw => by
    rcases List.mem_append.mp hw with hw | hw
    · rcases List.mem_append.mp hw with hw | hw
      · exact hv w (cut_mem w hw)
      · rw [List.mem_singleton.mp hw]
        exact ho
    · exact hv w (cut_mem w hw)
  have jl := join_len (s := [32]) (cutD vs none (some at_) ++ [o] ++ cutD vs (some j) none)
  have h1 : [32].length = 1 := rfl
  rw [h1] at jl
  refine ⟨.str (TL.joinL [32] (cutD vs none (some at_) ++ [o] ++ cutD vs (some j) none)), _, v_join v_c c5 (.inr ⟨_, rfl, Nat.lt_succ_self _, ?_⟩) (by rw [h1]; omega), ⟨_, rfl, by omega, cpOk_join rfl hall⟩, o5⟩
  rw [← he]
  exact new_self
end K81
end

section
set_option Elab.async false
set_option linter.all false
set_option maxRecDepth 100000
set_option autoImplicit false
set_option maxHeartbeats 4000000
namespace Mi
theorem eqG_lc {neg : Bool} {m : Mem} {a b : Nat} {xs : List D} (ha : m.get a = some (.lst xs)) (hb : m.get b = some (.lst xs)) (h1 : xs.all (sh 63 m) = true) (h2 : eqAll (eqd 63 m) xs xs = true) : eqG neg (.ref a) (.ref b) m = .ok (.bl (!neg)) m := by
  have e1 : sh 64 m (.ref a) = true := by
    show (match lstOf m a with | some xs => xs.all (sh 63 m) | none => false) = true
    rw [lstOf_lst ha]
    exact h1
  have e2 : sh 64 m (.ref b) = true := by
    show (match lstOf m b with | some xs => xs.all (sh 63 m) | none => false) = true
    rw [lstOf_lst hb]
    exact h1
  have e3 : eqd 64 m (.ref a) (.ref b) = true := by
    show (match lstOf m a, lstOf m b with | some xs, some ys => eqAll (eqd 63 m) xs ys | _, _ => false) = _
    rw [lstOf_lst ha, lstOf_lst hb]
    exact h2
  unfold eqG
  rw [e1, e2, e3]
  cases neg <;> rfl
/-- _law_pick(pen, [..]): what the list's parts made is kept too -/
theorem pick_new2 {F : Fn} {m m1 : Mem} {p q : Nat} {ns : List Int} {a g : Int} {e : Lo} {cs : Es} {ds : List D} {i : Nat} (hF : DrawOk F) (he : e[i]? = some (some (.ref p))) (ha : a < 1000000) (hc : cs e m = .ok ds m1) (h1 : Pen m1 p q ns a g) (hx : ds ≠ []) (hl : ds.length < 1000000) :
    ∃ d a' g' m', eFn (fnM 2 (gPick F)) 2 [] (esCons (eVar i) (esCons (eLst cs) (esNil))) e m = .ok d m' ∧ d ∈ ds ∧ Pen m' p q ns a' g' ∧ a' ≤ a + 1 ∧ Kept m1 m' p := by
  have h2 := h1.new (.lst ds)
  obtain ⟨d, a', g', m', e1, hd, hp', ha', kk⟩ := pick_list (k := m1.next) hF h2 ha (by rw [Mem.get_new, if_pos rfl]) (Nat.ne_of_gt h1.lp) (Nat.lt_succ_self _) hx hl
  exact ⟨d, a', g', m', (v_fn (ds := [D.ref p, D.ref m1.next]) (m1 := m1.new (.lst ds)) (v_cons (v_var he) (v_cons (v_lst hc (by omega)) v_nil)) rfl).trans e1, hd, hp', ha', (Kept.new m1 p _).trans kk⟩
end Mi
namespace K81
open Mi Cm
theorem bents_ok {ds : List D} (hd : ∀ d ∈ ds, Tx d) : ∀ (f i : Nat) (e : Lo) (m : Mem), i + f = ds.length → e.length = 12 →
    ∃ e' m', sForL (f + 1) i (itTup ds) (gN 8) bBody e m = .nx e' m' ∧ e'.length = 12 ∧ (∀ j, j ≠ 8 → j ≠ 9 → e'[j]? = e[j]?) ∧ Old m.next m m' := by
  intro f
  induction f with
  | zero =>
    intro i e m h he
    refine ⟨e, m, ?_, he, fun _ _ _ => rfl, Old.refl _ _⟩
    have hi : itTup ds i m = some none := by
      show some ds[i]? = _
      rw [List.getElem?_eq_none (by omega)]
    show (match itTup ds i m with
      | none => RS.bad
      | some none => .nx e m
      | some (some d) => _) = _
    rw [hi]
  | succ f ih =>
    intro i e m h he
    have hlt : i < ds.length := by omega
    obtain ⟨t, ht, h1, h2⟩ := hd ds[i] (List.getElem_mem hlt)
    have hi : itTup ds i m = some (some (.str t)) := by
      show some ds[i]? = _
      rw [List.getElem?_eq_getElem hlt, ht]
    obtain ⟨d, m1, b1, o1⟩ := bent_ok (e := e.set 8 (some (.str t))) (m := m) (t := t) (by rw [List.length_set]; exact he) (List.getElem?_set_self (by omega)) h1 h2
    obtain ⟨e', m', r1, r2, r3, r4⟩ := ih (i + 1) ((e.set 8 (some (.str t))).set 9 (some d)) m1 (by omega) (by rw [List.length_set, List.length_set]; exact he)
    refine ⟨e', m', ?_, r2, fun j h8 h9 => ?_, o1.trans (r4.less o1.next)⟩
    · show (match itTup ds i m with
        | none => RS.bad
        | some none => .nx e m
        | some (some d) => (match gN 8 d e m with
          | .nx e1 m1 => (match bBody e1 m1 with
            | .nx e2 m2 => sForL (f + 1) (i + 1) (itTup ds) (gN 8) bBody e2 m2
            | .ct e2 m2 => sForL (f + 1) (i + 1) (itTup ds) (gN 8) bBody e2 m2
            | .bk e2 m2 => .nx e2 m2
            | r => r)
          | .err x m1 => .err x m1
          | _ => .bad)) = _
      rw [hi]
      show (match bBody (e.set 8 (some (.str t))) m with
            | .nx e2 m2 => sForL (f + 1) (i + 1) (itTup ds) (gN 8) bBody e2 m2
            | .ct e2 m2 => sForL (f + 1) (i + 1) (itTup ds) (gN 8) bBody e2 m2
            | .bk e2 m2 => .nx e2 m2
            | r => r) = _
      rw [b1]
      exact r1
    · rw [r3 j h8 h9, List.getElem?_set_ne (Ne.symm h9), List.getElem?_set_ne (Ne.symm h8)]
/-- what is no course is refused -/
structure Bads (m : Mem) (n : Nat) : Prop where
  g0 : m.get n = some (.lst [.str [121, 101, 115], .non])
  g1 : ∃ kv, m.get (n + 1) = some (.dic kv)
  g2 : m.get (n + 2) = some (.lst [.bl true])
  g3 : m.get (n + 3) = some (.lst [.str [110, 111]])
  g4 : m.get (n + 4) = some (.lst [.str [121, 101, 115], .ref (n + 3)])
  lt : n + 4 < m.next
def badL (n : Nat) : List D := [.non, .int 5, .str [121, 101, 115], .ref n, .tup [.str [89, 101, 115]], .ref (n + 1), .ref (n + 2), .ref (n + 4)]
theorem bads_ok {m : Mem} {n : Nat} {d : D} (h : Bads m n) (hd : d ∈ badL n) : ∃ m', F_course_text [d] m = .err bc m' ∧ Old m.next m m' := by
  have hlt := h.lt
  have seq : ∀ (x : D) (ds : List D), Sq m x ds → ds.length ≤ 16000000 → (∀ d ∈ ds, ∀ n, d = .ref n → n < m.next ∧ ∃ xs, m.get n = some (.lst xs)) → ds.all gA = false → ∃ m', F_course_text [x] m = .err bc m' ∧ Old m.next m m' := fun x ds h1 h2 h3 h4 => by
    obtain ⟨m', e1, o1⟩ := isc_ok h1 h2 h3
    rw [h4] at e1
    exact ⟨m', text_bad e1, o1⟩
  have flat : ∀ ds : List D, ds.all (fun d => match d with | .ref _ => false | _ => true) = true → ∀ d ∈ ds, ∀ n, d = .ref n → n < m.next ∧ ∃ xs, m.get n = some (.lst xs) := fun ds h d hd n hn => by
    have := List.all_eq_true.mp h d hd
    rw [hn] at this
    cases this
  unfold badL at hd
  rcases List.mem_cons.mp hd with hd | hd
  · rw [hd]; exact ⟨m, text_bad rfl, Old.refl _ _⟩
  rcases List.mem_cons.mp hd with hd | hd
  · rw [hd]; exact ⟨m, text_bad rfl, Old.refl _ _⟩
  rcases List.mem_cons.mp hd with hd | hd
  · rw [hd]; exact ⟨m, text_bad rfl, Old.refl _ _⟩
  rcases List.mem_cons.mp hd with hd | hd
  · rw [hd]; exact seq _ _ (.inr ⟨n, rfl, by omega, h.g0⟩) (by decide) (flat _ rfl) rfl
  rcases List.mem_cons.mp hd with hd | hd
  · rw [hd]; exact seq _ _ (.inl rfl) (by decide) (flat _ rfl) rfl
  rcases List.mem_cons.mp hd with hd | hd
  · obtain ⟨kv, hk⟩ := h.g1
    rw [hd]
    refine ⟨m, text_bad (fn_rt (s_ret (v_andF ((v_fn (v_cons (v_var rfl) v_nil) rfl).trans (fn_rt (s_ret (v_is (v_var rfl) (kind_dic hk) rfl))))))), Old.refl _ _⟩
  rcases List.mem_cons.mp hd with hd | hd
  · rw [hd]; exact seq _ _ (.inr ⟨n + 2, rfl, by omega, h.g2⟩) (by decide) (flat _ rfl) rfl
  rw [List.mem_singleton.mp hd]
  refine seq _ _ (.inr ⟨n + 4, rfl, by omega, h.g4⟩) (by show 2 ≤ 16000000; decide) (fun d hd k hk => ?_) rfl
  rcases List.mem_cons.mp hd with hd | hd
  · rw [hd] at hk; cases hk
  · rw [List.mem_singleton.mp hd] at hk
    cases hk
    exact ⟨by omega, _, h.g3⟩
theorem nones_ok {m : Mem} {d : D} (hd : d ∈ [D.non, .int 5, .tup [.str [121, 101, 115]], .bl true]) : F_read_course [d] m = .err (bt 0 0) m := by
  rcases List.mem_cons.mp hd with hd | hd
  · rw [hd]; rfl
  rcases List.mem_cons.mp hd with hd | hd
  · rw [hd]; rfl
  rcases List.mem_cons.mp hd with hd | hd
  · rw [hd]; rfl
  rw [List.mem_singleton.mp hd]; rfl
end K81
end

section
set_option Elab.async false
set_option linter.all false
set_option maxRecDepth 100000
set_option autoImplicit false
set_option maxHeartbeats 4000000
namespace K81
open Mi Cm
def q0 : Sm := sSet 3 (eBin Mi.opMul (eFn F__law_course 2 [] (esCons (eVar 1) (esCons (eC (.int 9)) (esNil)))) (eFn F__law_pick 2 [] (esCons (eVar 1) (esCons (eLst (esCons (eC (.int 1)) (esCons (eC (.int 1)) (esCons (eC (.int 500)) (esNil))))) (esNil)))))
def q1 : Sm := sSet 4 (eJoin (eC (.str [32])) (eVar 3))
def q2 : Sm := sIf (tOrM (tOf (eBin Mi.opNe (eLst (esCons (eFn F_course_text 1 [] (esCons (eCall fList (esCons (eVar 3) (esNil))) (esNil))) (esCons (eFn F_course_text 1 [] (esCons (eVar 3) (esNil))) (esNil)))) (eBin Mi.opMul (eLst (esCons (eVar 4) (esNil))) (eC (.int 2))))) (tOrM (tOf (eBin Mi.opNe (eFn F_read_course 1 [] (esCons (eVar 4) (esNil))) (eVar 3))) (tOrM (tOf (eBin Mi.opNe (eFn F_read_course 1 [] (esCons (eVar 4) (esNil))) (eVar 3))) (tNotM (tV (eIs noC noC tb2 (eFn F_read_course 1 [] (esCons (eVar 4) (esNil))))))))) (sRet (eC (.bl false))) (sNil)
def q3 : Sm := sSet 5 (eSplit (eVar 4) (eC (.str [32])))
def q4 : Sm := sSet 6 (eFn F__law_draw 2 [] (esCons (eVar 1) (esCons (eCall fLen (esCons (eVar 5) (esNil))) (esNil))))
def q5 : Sm := sSet 7 (eFn F__law_pick 2 [] (esCons (eVar 1) (esCons (eLst (esCons (eC (.str [])) (esCons (eC (.str [89, 101, 115])) (esCons (eC (.str [121])) (esCons (eC (.str [110, 111, 110, 101])) (esCons (eC (.str [49])) (esCons (eC (.str [121, 101, 115])) (esCons (eC (.str [110, 111])) (esCons (eC (.str [121, 101, 115, 10, 110, 111])) (esCons (eC (.str [32, 121, 101, 115])) (esCons (eC (.str [110, 111, 32])) (esNil)))))))))))) (esNil))))
def q6 : Sm := sFor (srcTup (eTup (esCons (eJoin (eC (.str [32])) (eBin Mi.opAdd (eBin Mi.opAdd (eSl (eVar 5) oNone (oSome (eVar 6))) (eLst (esCons (eVar 7) (esNil)))) (eSl (eVar 5) (oSome (eVar 6)) oNone))) (esCons (eJoin (eC (.str [32])) (eBin Mi.opAdd (eBin Mi.opAdd (eSl (eVar 5) oNone (oSome (eVar 6))) (eLst (esCons (eVar 7) (esNil)))) (eSl (eVar 5) (oSome (eBin Mi.opAdd (eVar 6) (eC (.int 1)))) oNone))) (esCons (eBin Mi.opAdd (eVar 4) (eC (.str [10]))) (esCons (eBin Mi.opAdd (eC (.str [10])) (eVar 4)) (esCons (eBin Mi.opAdd (eC (.str [32])) (eVar 4)) (esNil)))))))) (gN 8) (sSeq (sSet 9 (eFn F__law_bad 1 [] (esCons (eVar 8) (esNil)))) (sIf (tOf (eBin Mi.opNe (eHeard ce (m_rest__law_heard) (eFn F_read_course 1 [] (esCons (eVar 8) (esNil)))) (eIf (tOf (eNotN (eVar 9))) (eVar 9) (eLst (esCons (eIf (tOf (eBin Mi.opNe (eVar 8) (eC (.str [])))) (eCall fTuple (esCons (eSplit (eVar 8) (eC (.str [32]))) (esNil))) (eTup (esNil))) (esNil)))))) (sRet (eC (.bl false))) (sNil)))
def q7 : Sm := sSet 10 (eFn F__law_pick 2 [] (esCons (eVar 1) (esCons (eLst (esCons (eC .non) (esCons (eC (.int 5)) (esCons (eC (.str [121, 101, 115])) (esCons (eLst (esCons (eC (.str [121, 101, 115])) (esCons (eC .non) (esNil)))) (esCons (eTup (esCons (eC (.str [89, 101, 115])) (esNil))) (esCons (eDic1 [121, 101, 115] (eC (.int 1))) (esCons (eLst (esCons (eC (.bl true)) (esNil))) (esCons (eLst (esCons (eC (.str [121, 101, 115])) (esCons (eLst (esCons (eC (.str [110, 111])) (esNil))) (esNil)))) (esNil)))))))))) (esNil))))
def q8 : Sm := sSet 11 (eFn F__law_pick 2 [] (esCons (eVar 1) (esCons (eLst (esCons (eC .non) (esCons (eC (.int 5)) (esCons (eTup (esCons (eC (.str [121, 101, 115])) (esNil))) (esCons (eC (.bl true)) (esNil)))))) (esNil))))
def q9 : Sm := sIf (tOf (eBin Mi.opNe (eLst (esCons (eHeard ce (m_rest__law_heard) (eFn F_course_text 1 [] (esCons (eVar 10) (esNil)))) (esCons (eHeard ce (m_rest__law_heard) (eFn F_read_course 1 [] (esCons (eVar 11) (esNil)))) (esNil)))) (eLst (esCons (eTup (esCons (eC (.str [112, 97, 114, 116])) (esCons (eC (.str [99, 111, 117, 114, 115, 101])) (esNil)))) (esCons (eTup (esCons (eC (.str [116, 101, 120, 116])) (esCons (eC (.int 0)) (esCons (eC (.int 0)) (esNil))))) (esNil)))))) (sRet (eC (.bl false))) (sNil)
def tBody : Sm := sSeq q0 (sSeq q1 (sSeq q2 (sSeq q3 (sSeq q4 (sSeq q5 (sSeq q6 (sSeq q7 (sSeq q8 q9))))))))
end K81
end

section
set_option Elab.async false
set_option linter.all false
set_option maxRecDepth 100000
set_option autoImplicit false
set_option maxHeartbeats 4000000
namespace K81
open Mi Cm
variable {x0 x2 x3 x4 x5 x6 x7 x8 x9 x10 x11 : Option D} {m : Mem} {p q : Nat} {ns : List Int} {a g : Int}
/-- the course and its text -/
theorem q0_ok (h : Pen m p q ns a g) (ha : a < 900000) : ∃ (cs : List (List Nat)) (a' g' : Int) (m' : Mem), q0 [x0, some (.ref p), x2, x3, x4, x5, x6, x7, x8, x9, x10, x11] m = .nx [x0, some (.ref p), x2, some (.tup (cs.map .str)), x4, x5, x6, x7, x8, x9, x10, x11] m' ∧ (∀ w ∈ cs, Ans w) ∧ cs.length ≤ 4500 ∧ Pen m' p q ns a' g' ∧ a' ≤ a + 11 := by
  obtain ⟨ws, a1, g1, m1, e1, w1, w2, p1, b1, k1⟩ := course_ok h ha
  obtain ⟨d, a2, g2, m2, e2, d2, p2, b2, k2⟩ := pick_new2 (i := 1) (e := [x0, some (.ref p), x2, x3, x4, x5, x6, x7, x8, x9, x10, x11]) (cs := cns [.int 1, .int 1, .int 500]) (ds := [.int 1, .int 1, .int 500]) drawOk rfl (by omega) (cns_ok _) p1 (by simp) (by decide)
  obtain ⟨cs, e3, c1, c2⟩ := mul_course (m := m2) w1 w2 d2
  refine ⟨cs, a2, g2, m2, s_set (d := .tup (cs.map .str)) ((v_bin ((v_fn (v_cons (v_var rfl) (v_cons v_c v_nil)) rfl).trans e1) e2).trans e3), c1, c2, p2, by omega⟩
theorem q1_ok {cs : List (List Nat)} (h : ∀ w ∈ cs, Ans w) (hl : cs.length ≤ 4500) : q1 [x0, some (.ref p), x2, some (.tup (cs.map .str)), x4, x5, x6, x7, x8, x9, x10, x11] m = .nx [x0, some (.ref p), x2, some (.tup (cs.map .str)), some (.str (TL.joinL [32] cs)), x5, x6, x7, x8, x9, x10, x11] m :=
  s_set (v_join v_c (v_var rfl) (.inl rfl) (by have := ans_sum h; show _ + _ * 1 ≤ _; omega))
theorem q2_ok {cs : List (List Nat)} (h : ∀ w ∈ cs, Ans w) (hl : cs.length ≤ 4500) : ∃ m', q2 [x0, some (.ref p), x2, some (.tup (cs.map .str)), some (.str (TL.joinL [32] cs)), x5, x6, x7, x8, x9, x10, x11] m = .nx [x0, some (.ref p), x2, some (.tup (cs.map .str)), some (.str (TL.joinL [32] cs)), x5, x6, x7, x8, x9, x10, x11] m' ∧ Old m.next m m' := by
  generalize he : ([x0, some (.ref p), x2, some (.tup (cs.map .str)), some (.str (TL.joinL [32] cs)), x5, x6, x7, x8, x9, x10, x11] : Lo) = e
  have h3 : e[3]? = some (some (.tup (cs.map .str))) := by rw [← he]; rfl
  have h4 : e[4]? = some (some (.str (TL.joinL [32] cs))) := by rw [← he]; rfl
  have hs := ans_sum h
  have hcp : ∀ w ∈ cs, cpOk w = true := fun w hw => ans_cp (h w hw)
  have hcj : cpOk (TL.joinL [32] cs) = true := cpOk_join rfl hcp
  obtain ⟨m1, a1, o1⟩ := text_ok (m := m.new (.lst (cs.map .str))) (x := .ref m.next) (ws := cs) (.inr ⟨m.next, rfl, Nat.lt_succ_self _, new_self⟩) (by omega) h
  obtain ⟨m2, a2, o2⟩ := text_ok (m := m1) (x := .tup (cs.map .str)) (ws := cs) (.inl rfl) (by omega) h
  have ol : (eCall fList (esCons (eVar 3) (esNil))) e m = .ok (.ref m.next) (m.new (.lst (cs.map .str))) := (v_one (v_var h3)).trans rfl
  have O1 : Old m.next m m1 := ((Old.refl _ _).new (Nat.le_refl _) _).trans (o1.less (Nat.le_succ _))
  have O2 : Old m.next m m2 := O1.trans (o2.less O1.next)
  have c1 : (eLst (esCons (eFn F_course_text 1 [] (esCons (eCall fList (esCons (eVar 3) (esNil))) (esNil))) (esCons (eFn F_course_text 1 [] (esCons (eVar 3) (esNil))) (esNil)))) e m = .ok (.ref m2.next) (m2.new (.lst ([TL.joinL [32] cs, TL.joinL [32] cs].map .str))) :=
    v_lst (v_cons ((v_fn (v_cons ol v_nil) rfl).trans a1) (v_cons ((v_fn (v_cons (v_var h3) v_nil) rfl).trans a2) v_nil)) (by show 2 ≤ 16777216; decide)
  have O3 := O2.new O2.next (.lst ([TL.joinL [32] cs, TL.joinL [32] cs].map .str))
  generalize hm3 : m2.new (.lst ([TL.joinL [32] cs, TL.joinL [32] cs].map .str)) = m3 at c1 O3
  have n3 : m2.next < m3.next := by rw [← hm3]; exact Nat.lt_succ_self _
  have g3 : m3.get m2.next = some (.lst ([TL.joinL [32] cs, TL.joinL [32] cs].map .str)) := by rw [← hm3]; exact new_self
  have c2 : (eLst (esCons (eVar 4) (esNil))) e m3 = .ok (.ref m3.next) (m3.new (.lst [.str (TL.joinL [32] cs)])) := v_lst (v_cons (v_var h4) v_nil) (by show 1 ≤ 16777216; decide)
  have O4 := O3.new O3.next (.lst [.str (TL.joinL [32] cs)])
  have c3 : Mi.opMul (.ref m3.next) (.int 2) (m3.new (.lst [.str (TL.joinL [32] cs)])) = .ok (.ref (m3.next + 1)) ((m3.new (.lst [.str (TL.joinL [32] cs)])).new (.lst ([TL.joinL [32] cs, TL.joinL [32] cs].map .str))) := by
    have gg : (m3.new (.lst [.str (TL.joinL [32] cs)])).get m3.next = some (.lst [.str (TL.joinL [32] cs)]) := new_self
    unfold Mi.opMul
    dsimp only
    rw [gg]
    rfl
  have O5 := O4.new O4.next (.lst ([TL.joinL [32] cs, TL.joinL [32] cs].map .str))
  have c4 := (v_bin (f := Mi.opNe) c1 ((v_bin (f := Mi.opMul) c2 v_c).trans c3)).trans (eqG_lstr (neg := true) (ws := [TL.joinL [32] cs, TL.joinL [32] cs]) (by rw [new_lt (Nat.lt_succ_of_lt n3), new_lt n3]; exact g3) new_self (by
    intro w hw
    rcases List.mem_cons.mp hw with hw | hw
    · rw [hw]; exact hcj
    · rw [List.mem_singleton.mp hw]; exact hcj))
  generalize hm5 : (m3.new (.lst [.str (TL.joinL [32] cs)])).new (.lst ([TL.joinL [32] cs, TL.joinL [32] cs].map .str)) = m5 at c4 O5
  obtain ⟨m6, b6, o6⟩ := read_text (m := m5) h hl
  obtain ⟨m7, b7, o7⟩ := read_text (m := m6) h hl
  obtain ⟨m8, b8, o8⟩ := read_text (m := m7) h hl
  have O6 := O5.trans (o6.less O5.next)
  have O7 := O6.trans (o7.less O6.next)
  have O8 := O7.trans (o8.less O7.next)
  have d6 := (v_bin (f := Mi.opNe) ((v_fn (ca := esCons (eVar 4) (esNil)) (n := 1) (v_cons (v_var h4) v_nil) rfl).trans b6) (v_var h3)).trans (eqG_tup (neg := true) hcp)
  have d7 := (v_bin (f := Mi.opNe) ((v_fn (ca := esCons (eVar 4) (esNil)) (n := 1) (v_cons (v_var h4) v_nil) rfl).trans b7) (v_var h3)).trans (eqG_tup (neg := true) hcp)
  have d8 : (tNotM (tV (eIs noC noC tb2 (eFn F_read_course 1 [] (esCons (eVar 4) (esNil)))))) e m7 = .ok false m8 := t_not (bb := true) (t_val (v_is (k := true) (t := .tup) ((v_fn (v_cons (v_var h4) v_nil) rfl).trans b8) rfl rfl) rfl)
  exact ⟨m8, (s_ifF ((t_orF (t_of c4)).trans ((t_orF (t_of d6)).trans ((t_orF (t_of d7)).trans d8)))).trans s_nil, O8⟩
end K81
end

section
set_option Elab.async false
set_option linter.all false
set_option maxRecDepth 100000
set_option autoImplicit false
set_option maxHeartbeats 4000000
namespace K81
open Mi Cm
variable {x0 x2 x3 x4 x5 x6 x7 x8 x9 x10 x11 : Option D} {m : Mem} {p q : Nat} {ns : List Int} {a g : Int}
theorem words_ok {cs : List (List Nat)} (h : ∀ w ∈ cs, Ans w) (hl : cs.length ≤ 4500) : wds (TL.joinL [32] cs) ≠ [] ∧ (∀ w ∈ wds (TL.joinL [32] cs), cpOk w = true) ∧ lenSum (wds (TL.joinL [32] cs)) ≤ 14000 ∧ (wds (TL.joinL [32] cs)).length ≤ 5000 := by
  by_cases hne : cs = []
  · rw [hne]
    exact ⟨by decide, (fun w hw => by rw [List.mem_singleton.mp hw]; rfl), by decide, by decide⟩
  · have h2 : wds (TL.joinL [32] cs) = cs := TL.spl_join hne fun p hp => ans_32 (h p hp)
    have hs := ans_sum h
    rw [h2]
    exact ⟨hne, fun w hw => ans_cp (h w hw), by omega, by omega⟩
theorem text_len {cs : List (List Nat)} (h : ∀ w ∈ cs, Ans w) (hl : cs.length ≤ 4500) : (TL.joinL [32] cs).length ≤ 20000 := by
  have hs := ans_sum h
  have hj := join_len (s := [32]) cs
  have : [32].length = 1 := rfl
  rw [this] at hj
  omega
theorem q3_ok {t : List Nat} (ht : t.length ≤ 60000) : q3 [x0, some (.ref p), x2, x3, some (.str t), x5, x6, x7, x8, x9, x10, x11] m = .nx [x0, some (.ref p), x2, x3, some (.str t), some (.ref m.next), x6, x7, x8, x9, x10, x11] (m.new (.lst ((wds t).map .str))) :=
  s_set (v_split (v_var rfl) v_c (by omega) (by decide))
theorem q4_ok {W : Nat} {vs : List (List Nat)} (h : Pen m p q ns a g) (ha : a < 1000000) (hW : m.get W = some (.lst (vs.map .str))) (hv : vs ≠ []) (hl : vs.length ≤ 5000) : ∃ d a' g' m', q4 [x0, some (.ref p), x2, x3, x4, some (.ref W), x6, x7, x8, x9, x10, x11] m = .nx [x0, some (.ref p), x2, x3, x4, some (.ref W), some (.int d), x7, x8, x9, x10, x11] m' ∧ Pen m' p q ns a' g' ∧ a' ≤ a + 1 ∧ Kept m m' p := by
  have hp : 0 < vs.length := List.length_pos_iff.mpr hv
  obtain ⟨d, a', g', m', e, _, _, hp', ha', kk⟩ := drawOk (many := (vs.length : Int)) h ha (by omega) (by omega)
  refine ⟨d, a', g', m', s_set ((v_fn (v_cons (v_var rfl) (v_cons ((v_one (v_var rfl)).trans (len_lst hW)) v_nil)) rfl).trans ?_), hp', ha', kk⟩
  rw [List.length_map]
  exact e
theorem q5_ok (h : Pen m p q ns a g) (ha : a < 1000000) : ∃ o a' g' m', q5 [x0, some (.ref p), x2, x3, x4, x5, x6, x7, x8, x9, x10, x11] m = .nx [x0, some (.ref p), x2, x3, x4, x5, x6, some (.str o), x8, x9, x10, x11] m' ∧ cpOk o = true ∧ o.length ≤ 20 ∧ Pen m' p q ns a' g' ∧ a' ≤ a + 1 ∧ Kept m m' p := by
  obtain ⟨d, a2, g2, m2, e2, d2, p2, b2, k2⟩ := pick_new2 (i := 1) (e := [x0, some (.ref p), x2, x3, x4, x5, x6, x7, x8, x9, x10, x11]) (cs := cns [.str [], .str [89, 101, 115], .str [121], .str [110, 111, 110, 101], .str [49], .str [121, 101, 115], .str [110, 111], .str [121, 101, 115, 10, 110, 111], .str [32, 121, 101, 115], .str [110, 111, 32]]) (ds := [.str [], .str [89, 101, 115], .str [121], .str [110, 111, 110, 101], .str [49], .str [121, 101, 115], .str [110, 111], .str [121, 101, 115, 10, 110, 111], .str [32, 121, 101, 115], .str [110, 111, 32]]) drawOk rfl ha (cns_ok _) h (by simp) (by decide)
  have hd : ∃ o, d = .str o ∧ cpOk o = true ∧ o.length ≤ 20 := by
    simp only [List.mem_cons, List.not_mem_nil, or_false] at d2
    rcases d2 with z | z | z | z | z | z | z | z | z | z <;> exact ⟨_, z, by decide, by decide⟩
  obtain ⟨o, ho, o1, o2⟩ := hd
  rw [ho] at e2
  exact ⟨o, a2, g2, m2, s_set e2, o1, o2, p2, b2, k2⟩
theorem two_slots {x1 : Option D} : ∀ {e' : Lo}, e'.length = 12 → (∀ j, j ≠ 8 → j ≠ 9 → e'[j]? = ([x0, x1, x2, x3, x4, x5, x6, x7, x8, x9, x10, x11] : Lo)[j]?) → ∃ y8 y9, e' = [x0, x1, x2, x3, x4, x5, x6, x7, y8, y9, x10, x11]
  | [z0, z1, z2, z3, z4, z5, z6, z7, z8, z9, z10, z11], _, h => by
    have h0 : z0 = x0 := Option.some.inj (h 0 (by decide) (by decide))
    have h1 : z1 = x1 := Option.some.inj (h 1 (by decide) (by decide))
    have h2 : z2 = x2 := Option.some.inj (h 2 (by decide) (by decide))
    have h3 : z3 = x3 := Option.some.inj (h 3 (by decide) (by decide))
    have h4 : z4 = x4 := Option.some.inj (h 4 (by decide) (by decide))
    have h5 : z5 = x5 := Option.some.inj (h 5 (by decide) (by decide))
    have h6 : z6 = x6 := Option.some.inj (h 6 (by decide) (by decide))
    have h7 : z7 = x7 := Option.some.inj (h 7 (by decide) (by decide))
    have h10 : z10 = x10 := Option.some.inj (h 10 (by decide) (by decide))
    have h11 : z11 = x11 := Option.some.inj (h 11 (by decide) (by decide))
    exact ⟨z8, z9, by rw [h0, h1, h2, h3, h4, h5, h6, h7, h10, h11]⟩
theorem q6_ok {t o : List Nat} {W : Nat} {at_ : Int} {vs : List (List Nat)} (hW : m.get W = some (.lst (vs.map .str))) (hWn : W < m.next) (hv : ∀ w ∈ vs, cpOk w = true) (hs : lenSum vs ≤ 14000) (hl : vs.length ≤ 5000) (ho : cpOk o = true) (hol : o.length ≤ 20) (ht : t.length ≤ 20000) (hc : cpOk t = true) :
    ∃ y8 y9 m', q6 [x0, some (.ref p), x2, x3, some (.str t), some (.ref W), some (.int at_), some (.str o), x8, x9, x10, x11] m = .nx [x0, some (.ref p), x2, x3, some (.str t), some (.ref W), some (.int at_), some (.str o), y8, y9, x10, x11] m' ∧ Old m.next m m' := by
  generalize he : ([x0, some (.ref p), x2, x3, some (.str t), some (.ref W), some (.int at_), some (.str o), x8, x9, x10, x11] : Lo) = e
  have h4 : e[4]? = some (some (.str t)) := by rw [← he]; rfl
  have h5 : e[5]? = some (some (.ref W)) := by rw [← he]; rfl
  have h6 : e[6]? = some (some (.int at_)) := by rw [← he]; rfl
  have h7 : e[7]? = some (some (.str o)) := by rw [← he]; rfl
  obtain ⟨d1, m1, a1, t1, o1⟩ := bend_ok (lo := oSome (eVar 6)) (j := at_) h5 h6 h7 (fun m => o_some (v_var h6)) hW hWn hv hs hl ho hol
  obtain ⟨d2, m2, a2, t2, o2⟩ := bend_ok (m := m1) (lo := oSome (eBin Mi.opAdd (eVar 6) (eC (.int 1)))) (j := at_ + 1) h5 h6 h7 (fun m => o_some ((v_bin (v_var h6) v_c).trans add_ok)) (by rw [o1.get W hWn]; exact hW) (Nat.lt_of_lt_of_le hWn o1.next) hv hs hl ho hol
  have O2 := o1.trans (o2.less o1.next)
  have tx : ∀ s : List Nat, s.length ≤ 60000 → cpOk s = true → Tx (.str s) := fun s h1 h2 => ⟨s, rfl, h1, h2⟩
  have hsrc : srcTup (eTup (esCons (eJoin (eC (.str [32])) (eBin Mi.opAdd (eBin Mi.opAdd (eSl (eVar 5) oNone (oSome (eVar 6))) (eLst (esCons (eVar 7) (esNil)))) (eSl (eVar 5) (oSome (eVar 6)) oNone))) (esCons (eJoin (eC (.str [32])) (eBin Mi.opAdd (eBin Mi.opAdd (eSl (eVar 5) oNone (oSome (eVar 6))) (eLst (esCons (eVar 7) (esNil)))) (eSl (eVar 5) (oSome (eBin Mi.opAdd (eVar 6) (eC (.int 1)))) oNone))) (esCons (eBin Mi.opAdd (eVar 4) (eC (.str [10]))) (esCons (eBin Mi.opAdd (eC (.str [10])) (eVar 4)) (esCons (eBin Mi.opAdd (eC (.str [32])) (eVar 4)) (esNil))))))) e m = .ok (6, itTup [d1, d2, .str (t ++ [10]), .str ([10] ++ t), .str ([32] ++ t)]) m2 := by
    unfold srcTup
    rw [v_tup (ds := [d1, d2, .str (t ++ [10]), .str ([10] ++ t), .str ([32] ++ t)]) (v_cons a1 (v_cons a2 (v_cons ((v_bin (v_var h4) v_c).trans (add_str (by show _ + 1 ≤ _; omega))) (v_cons ((v_bin v_c (v_var h4)).trans (add_str (by show 1 + _ ≤ _; omega))) (v_cons ((v_bin v_c (v_var h4)).trans (add_str (by show 1 + _ ≤ _; omega))) v_nil))))) (by show 5 ≤ 16777216; decide)]
    rfl
  have hd : ∀ d ∈ [d1, d2, D.str (t ++ [10]), .str ([10] ++ t), .str ([32] ++ t)], Tx d := fun d hd => by
    simp only [List.mem_cons, List.not_mem_nil, or_false] at hd
    rcases hd with z | z | z | z | z <;> rw [z]
    · exact t1
    · exact t2
    · exact tx _ (by rw [List.length_append]; show _ + 1 ≤ _; omega) (cpOk_app hc rfl)
    · exact tx _ (by rw [List.length_append]; show 1 + _ ≤ _; omega) (cpOk_app rfl hc)
    · exact tx _ (by rw [List.length_append]; show 1 + _ ≤ _; omega) (cpOk_app rfl hc)
  obtain ⟨e', m', r1, r2, r3, r4⟩ := bents_ok hd 5 0 e m2 rfl (by rw [← he]; rfl)
  obtain ⟨y8, y9, hy⟩ := two_slots (x0 := x0) (x1 := some (.ref p)) (x2 := x2) (x3 := x3) (x4 := some (.str t)) (x5 := some (.ref W)) (x6 := some (.int at_)) (x7 := some (.str o)) (x8 := x8) (x9 := x9) (x10 := x10) (x11 := x11) r2 (fun j h8 h9 => by rw [he]; exact r3 j h8 h9)
  refine ⟨y8, y9, m', ?_, O2.trans (r4.less O2.next)⟩
  rw [← hy]
  exact (s_for (g := gN 8) (b := bBody) hsrc).trans r1
end K81
end

section
set_option Elab.async false
set_option linter.all false
set_option maxRecDepth 100000
set_option autoImplicit false
set_option maxHeartbeats 4000000
namespace K81
open Mi Cm
variable {x0 x2 x3 x4 x5 x6 x7 x8 x9 x10 x11 : Option D} {m : Mem} {p q : Nat} {ns : List Int} {a g : Int}
def badC : Es := esCons (eC .non) (esCons (eC (.int 5)) (esCons (eC (.str [121, 101, 115])) (esCons (eLst (esCons (eC (.str [121, 101, 115])) (esCons (eC .non) (esNil)))) (esCons (eTup (esCons (eC (.str [89, 101, 115])) (esNil))) (esCons (eDic1 [121, 101, 115] (eC (.int 1))) (esCons (eLst (esCons (eC (.bl true)) (esNil))) (esCons (eLst (esCons (eC (.str [121, 101, 115])) (esCons (eLst (esCons (eC (.str [110, 111])) (esNil))) (esNil)))) (esNil))))))))
def badM (m : Mem) : Mem := (((((m.new (.lst [.str [121, 101, 115], .non])).new (.dic [])).set (m.next + 1) (.dic [(.str [121, 101, 115], .int 1)])).new (.lst [.bl true])).new (.lst [.str [110, 111]])).new (.lst [.str [121, 101, 115], .ref (m.next + 3)])
theorem badC_ok {e : Lo} : badC e m = .ok (badL m.next) (badM m) := by
  have dic : ∀ m : Mem, eDic1 [121, 101, 115] (eC (.int 1)) e m = .ok (.ref m.next) ((m.new (.dic [])).set m.next (.dic [(.str [121, 101, 115], .int 1)])) := fun m => by
    unfold eDic1
    show (match (m.new (.dic [])).get m.next with
      | some (.dic []) => Mi.R.ok (D.ref m.next) ((m.new (.dic [])).set m.next (.dic [(.str [121, 101, 115], .int 1)]))
      | _ => .bad) = _
    rw [new_self]
  exact v_cons v_c (v_cons v_c (v_cons v_c (v_cons (v_lst (v_cons v_c (v_cons v_c v_nil)) (by decide)) (v_cons (v_tup (v_cons v_c v_nil) (by decide)) (v_cons (dic _) (v_cons (v_lst (v_cons v_c v_nil) (by decide)) (v_cons (v_lst (v_cons v_c (v_cons (v_lst (v_cons v_c v_nil) (by decide)) v_nil)) (by show 2 ≤ 16777216; decide)) v_nil)))))))
theorem bads_new : Bads (badM m) m.next := by
  have n1 : (m.new (.lst [.str [121, 101, 115], .non])).next = m.next + 1 := rfl
  refine ⟨?_, ⟨[(.str [121, 101, 115], .int 1)], ?_⟩, ?_, ?_, ?_, Nat.lt_succ_self _⟩ <;> unfold badM <;> simp [Mem.get_new, Mem.get_set, Mem.next_new, Mem.next_set]
  rw [if_neg (by omega), if_neg (by omega), if_neg (by omega)]
theorem badM_old : Old m.next m (badM m) := by
  unfold badM
  exact ((((((Old.refl _ _).new (Nat.le_refl _) _).new (Nat.le_succ _) _).set (Nat.le_succ _) _).new (by show m.next ≤ m.next + 1 + 1; omega) _).new (by show m.next ≤ m.next + 1 + 1 + 1; omega) _).new (by show m.next ≤ m.next + 1 + 1 + 1 + 1; omega) _
theorem Bads.kept {m m' : Mem} {n : Nat} (h : Bads m n) (k : Kept m m' p) (hp : p < n) : Bads m' n := by
  have := h.lt
  have hn := k.next
  obtain ⟨kv, hk⟩ := h.g1
  exact ⟨by rw [k.get n (by omega) (by omega)]; exact h.g0, ⟨kv, by rw [k.get _ (by omega) (by omega)]; exact hk⟩, by rw [k.get _ (by omega) (by omega)]; exact h.g2, by rw [k.get _ (by omega) (by omega)]; exact h.g3, by rw [k.get _ (by omega) (by omega)]; exact h.g4, by omega⟩
theorem q7_ok (h : Pen m p q ns a g) (ha : a < 1000000) : ∃ n d a' g' m', q7 [x0, some (.ref p), x2, x3, x4, x5, x6, x7, x8, x9, x10, x11] m = .nx [x0, some (.ref p), x2, x3, x4, x5, x6, x7, x8, x9, some d, x11] m' ∧ d ∈ badL n ∧ Bads m' n ∧ p < n ∧ Pen m' p q ns a' g' ∧ a' ≤ a + 1 := by
  obtain ⟨d, a2, g2, m2, e2, d2, p2, b2, k2⟩ := pick_new2 (i := 1) (e := [x0, some (.ref p), x2, x3, x4, x5, x6, x7, x8, x9, x10, x11]) (m := m) (cs := badC) (ds := badL m.next) drawOk rfl ha badC_ok (h.old badM_old (Nat.le_refl _)) (by unfold badL; simp) (by show 8 < 1000000; decide)
  exact ⟨m.next, d, a2, g2, m2, s_set e2, d2, bads_new.kept k2 h.lp, h.lp, p2, b2⟩
end K81
end

section
set_option Elab.async false
set_option linter.all false
set_option maxRecDepth 100000
set_option autoImplicit false
set_option maxHeartbeats 4000000
namespace K81
open Mi Cm
variable {x0 x2 x3 x4 x5 x6 x7 x8 x9 x10 x11 : Option D} {m : Mem} {p q : Nat} {ns : List Int} {a g : Int}
theorem q8_ok (h : Pen m p q ns a g) (ha : a < 1000000) : ∃ d a' g' m', q8 [x0, some (.ref p), x2, x3, x4, x5, x6, x7, x8, x9, x10, x11] m = .nx [x0, some (.ref p), x2, x3, x4, x5, x6, x7, x8, x9, x10, some d] m' ∧ d ∈ [D.non, .int 5, .tup [.str [121, 101, 115]], .bl true] ∧ Pen m' p q ns a' g' ∧ a' ≤ a + 1 ∧ Kept m m' p := by
  obtain ⟨d, a2, g2, m2, e2, d2, p2, b2, k2⟩ := pick_new2 (i := 1) (e := [x0, some (.ref p), x2, x3, x4, x5, x6, x7, x8, x9, x10, x11]) (m := m) (m1 := m) (cs := (esCons (eC .non) (esCons (eC (.int 5)) (esCons (eTup (esCons (eC (.str [121, 101, 115])) (esNil))) (esCons (eC (.bl true)) (esNil)))))) (ds := [.non, .int 5, .tup [.str [121, 101, 115]], .bl true]) drawOk rfl ha (v_cons v_c (v_cons v_c (v_cons (v_tup (v_cons v_c v_nil) (by decide)) (v_cons v_c v_nil)))) h (by simp) (by show 4 < 1000000; decide)
  exact ⟨d, a2, g2, m2, s_set e2, d2, p2, b2, k2⟩
theorem q9_ok {n : Nat} {d d' : D} (hb : Bads m n) (hd : d ∈ badL n) (hd' : d' ∈ [D.non, .int 5, .tup [.str [121, 101, 115]], .bl true]) : ∃ m', q9 [x0, some (.ref p), x2, x3, x4, x5, x6, x7, x8, x9, some d, some d'] m = .nx [x0, some (.ref p), x2, x3, x4, x5, x6, x7, x8, x9, some d, some d'] m' ∧ Old m.next m m' := by
  obtain ⟨m1, e1, o1⟩ := bads_ok hb hd
  have c1 : eHeard ce (m_rest__law_heard) (eFn F_course_text 1 [] (esCons (eVar 10) (esNil))) [x0, some (.ref p), x2, x3, x4, x5, x6, x7, x8, x9, some d, some d'] m = _ := (v_heard ((v_fn (v_cons (v_var rfl) v_nil) rfl).trans e1)).trans heard_bc
  have O1 := o1.new o1.next (.exc 8 [(0, .str crs)])
  generalize m1.new (.exc 8 [(0, .str crs)]) = m2 at c1 O1
  have c2 : eHeard ce (m_rest__law_heard) (eFn F_read_course 1 [] (esCons (eVar 11) (esNil))) [x0, some (.ref p), x2, x3, x4, x5, x6, x7, x8, x9, some d, some d'] m2 = _ := (v_heard ((v_fn (v_cons (v_var rfl) v_nil) rfl).trans (nones_ok hd'))).trans heard_bt
  have O2 := O1.new O1.next (.exc 13 [(2, .int ((0 : Nat) : Int)), (1, .int ((0 : Nat) : Int))])
  generalize m2.new (.exc 13 [(2, .int ((0 : Nat) : Int)), (1, .int ((0 : Nat) : Int))]) = m3 at c2 O2
  have c3 := v_lst (v_cons c1 (v_cons c2 v_nil)) (by show 2 ≤ 16777216; decide)
  have c4 := v_lst (e := [x0, some (.ref p), x2, x3, x4, x5, x6, x7, x8, x9, some d, some d']) (m := m3.new (.lst [.tup [.str prt, .str crs], .tup [.str txt, .int ((0 : Nat) : Int), .int ((0 : Nat) : Int)]])) (v_cons (v_tup (v_cons (v_c (d := .str prt)) (v_cons (v_c (d := .str crs)) v_nil)) (by show 2 ≤ 16777216; decide)) (v_cons (v_tup (v_cons (v_c (d := .str txt)) (v_cons (v_c (d := .int 0)) (v_cons (v_c (d := .int 0)) v_nil))) (by show 3 ≤ 16777216; decide)) v_nil)) (by show 2 ≤ 16777216; decide)
  have c5 := (v_bin (f := Mi.opNe) c3 c4).trans (eqG_lc (neg := true) (xs := [.tup [.str prt, .str crs], .tup [.str txt, .int 0, .int 0]]) (by rw [new_lt (Nat.lt_succ_self _)]; exact new_self) new_self rfl rfl)
  exact ⟨_, (s_ifF (t_of c5)).trans s_nil, (O2.new O2.next _).new (Nat.le_succ_of_le O2.next) _⟩
end K81
end

section
set_option Elab.async false
set_option linter.all false
set_option maxRecDepth 100000
set_option autoImplicit false
set_option maxHeartbeats 4000000
namespace K81
open Mi Cm
variable {x0 x2 x3 x4 x5 x6 x7 x8 x9 x10 x11 : Option D} {m : Mem} {p q : Nat} {ns : List Int} {a g : Int}
theorem turn_ok (h : Pen m p q ns a g) (ha : a < 900000) : ∃ y3 y4 y5 y6 y7 y8 y9 y10 y11 a' g' m', tBody [x0, some (.ref p), x2, x3, x4, x5, x6, x7, x8, x9, x10, x11] m = .nx [x0, some (.ref p), x2, y3, y4, y5, y6, y7, y8, y9, y10, y11] m' ∧ Pen m' p q ns a' g' ∧ a' ≤ a + 15 := by
  obtain ⟨cs, a1, g1, m1, e1, c1, c2, p1, b1⟩ := q0_ok (x0 := x0) (x2 := x2) (x3 := x3) (x4 := x4) (x5 := x5) (x6 := x6) (x7 := x7) (x8 := x8) (x9 := x9) (x10 := x10) (x11 := x11) h ha
  have e2 := q1_ok (x0 := x0) (p := p) (x2 := x2) (x4 := x4) (x5 := x5) (x6 := x6) (x7 := x7) (x8 := x8) (x9 := x9) (x10 := x10) (x11 := x11) (m := m1) c1 c2
  obtain ⟨m3, e3, o3⟩ := q2_ok (x0 := x0) (p := p) (x2 := x2) (x5 := x5) (x6 := x6) (x7 := x7) (x8 := x8) (x9 := x9) (x10 := x10) (x11 := x11) (m := m1) c1 c2
  have p3 := p1.old o3 (Nat.le_refl _)
  have tl := text_len c1 c2
  obtain ⟨w1, w2, w3, w4⟩ := words_ok c1 c2
  have tc : cpOk (TL.joinL [32] cs) = true := cpOk_join rfl fun w hw => ans_cp (c1 w hw)
  have e4 := q3_ok (x0 := x0) (p := p) (x2 := x2) (x3 := some (.tup (cs.map .str))) (x5 := x5) (x6 := x6) (x7 := x7) (x8 := x8) (x9 := x9) (x10 := x10) (x11 := x11) (m := m3) (t := TL.joinL [32] cs) (by omega)
  have p4 := p3.new (.lst ((wds (TL.joinL [32] cs)).map .str))
  have gW : (m3.new (.lst ((wds (TL.joinL [32] cs)).map .str))).get m3.next = some (.lst ((wds (TL.joinL [32] cs)).map .str)) := new_self
  have nW : m3.next < (m3.new (.lst ((wds (TL.joinL [32] cs)).map .str))).next := Nat.lt_succ_self _
  have hWp : m3.next ≠ p := Nat.ne_of_gt p3.lp
  generalize m3.new (.lst ((wds (TL.joinL [32] cs)).map .str)) = m4 at e4 p4 gW nW
  obtain ⟨at_, a5, g5, m5, e5, p5, b5, k5⟩ := q4_ok (x0 := x0) (x2 := x2) (x3 := some (.tup (cs.map .str))) (x4 := some (.str (TL.joinL [32] cs))) (x6 := x6) (x7 := x7) (x8 := x8) (x9 := x9) (x10 := x10) (x11 := x11) p4 (by omega) gW w1 w4
  obtain ⟨o, a6, g6, m6, e6, v1, v2, p6, b6, k6⟩ := q5_ok (x0 := x0) (x2 := x2) (x3 := some (.tup (cs.map .str))) (x4 := some (.str (TL.joinL [32] cs))) (x5 := some (.ref m3.next)) (x6 := some (.int at_)) (x7 := x7) (x8 := x8) (x9 := x9) (x10 := x10) (x11 := x11) p5 (by omega)
  have k := k5.trans k6
  obtain ⟨y8, y9, m7, e7, o7⟩ := q6_ok (x0 := x0) (p := p) (x2 := x2) (x3 := some (.tup (cs.map .str))) (x8 := x8) (x9 := x9) (x10 := x10) (x11 := x11) (m := m6) (t := TL.joinL [32] cs) (o := o) (at_ := at_) (W := m3.next) (vs := wds (TL.joinL [32] cs)) (by rw [k.get _ nW hWp]; exact gW) (Nat.lt_of_lt_of_le nW k.next) w2 w3 w4 v1 v2 tl tc
  have p7 := p6.old o7 (Nat.le_refl _)
  obtain ⟨n, d, a8, g8, m8, e8, d8, B8, pn, p8, b8⟩ := q7_ok (x0 := x0) (x2 := x2) (x3 := some (.tup (cs.map .str))) (x4 := some (.str (TL.joinL [32] cs))) (x5 := some (.ref m3.next)) (x6 := some (.int at_)) (x7 := some (.str o)) (x8 := y8) (x9 := y9) (x10 := x10) (x11 := x11) p7 (by omega)
  obtain ⟨d', a9, g9, m9, e9, d9, p9, b9, k9⟩ := q8_ok (x0 := x0) (x2 := x2) (x3 := some (.tup (cs.map .str))) (x4 := some (.str (TL.joinL [32] cs))) (x5 := some (.ref m3.next)) (x6 := some (.int at_)) (x7 := some (.str o)) (x8 := y8) (x9 := y9) (x10 := some d) (x11 := x11) p8 (by omega)
  obtain ⟨m10, e10, o10⟩ := q9_ok (x0 := x0) (p := p) (x2 := x2) (x3 := some (.tup (cs.map .str))) (x4 := some (.str (TL.joinL [32] cs))) (x5 := some (.ref m3.next)) (x6 := some (.int at_)) (x7 := some (.str o)) (x8 := y8) (x9 := y9) (B8.kept k9 pn) d8 d9
  refine ⟨some (.tup (cs.map .str)), some (.str (TL.joinL [32] cs)), some (.ref m3.next), some (.int at_), some (.str o), y8, y9, some d, some d', a9, g9, m10, ?_, p9.old o10 (Nat.le_refl _), by omega⟩
  exact (s_seq e1).trans ((s_seq e2).trans ((s_seq e3).trans ((s_seq e4).trans ((s_seq e5).trans ((s_seq e6).trans ((s_seq e7).trans ((s_seq e8).trans ((s_seq e9).trans e10))))))))
end K81
end

section
set_option Elab.async false
set_option linter.all false
set_option maxRecDepth 100000
set_option autoImplicit false
set_option maxHeartbeats 4000000
namespace K81
open Mi Cm
variable {p q : Nat} {ns : List Int}
theorem turns_ok : ∀ (f i : Nat) (e : Lo) (m : Mem) (a g : Int), i + f = 8 → e.length = 12 → e[1]? = some (some (.ref p)) → Pen m p q ns a g → a ≤ 20 * i →
    ∃ e' m', sForL (f + 1) i (itRng 0 8) (gN 2) tBody e m = .nx e' m' := by
  intro f
  induction f with
  | zero =>
    intro i e m a g h _ _ _ _
    have hi : i = 8 := h
    rw [hi]
    exact ⟨e, m, rfl⟩
  | succ f ih =>
    intro i e m a g h he h1 hp ha
    have hi : itRng 0 8 i m = some (some (.int (0 + (i : Int)))) := by
      unfold itRng
      have q : Nat.blt i 8 = true := Nat.ble_eq_true_of_le (by omega)
      rw [q]
    match e, he, h1 with
    | [x0, x1, x2, x3, x4, x5, x6, x7, x8, x9, x10, x11], _, h1 =>
      have h1 : x1 = some (.ref p) := Option.some.inj h1
      subst h1
      obtain ⟨y3, y4, y5, y6, y7, y8, y9, y10, y11, a', g', m', e1, p1, b1⟩ := turn_ok (x0 := x0) (x2 := some (.int (0 + (i : Int)))) (x3 := x3) (x4 := x4) (x5 := x5) (x6 := x6) (x7 := x7) (x8 := x8) (x9 := x9) (x10 := x10) (x11 := x11) hp (by omega)
      obtain ⟨e', m'', r⟩ := ih (i + 1) [x0, some (.ref p), some (.int (0 + (i : Int))), y3, y4, y5, y6, y7, y8, y9, y10, y11] m' a' g' (by omega) rfl rfl p1 (by omega)
      refine ⟨e', m'', ?_⟩
      show (match itRng 0 8 i m with
        | none => RS.bad
        | some none => .nx _ m
        | some (some d) => (match gN 2 d [x0, some (.ref p), x2, x3, x4, x5, x6, x7, x8, x9, x10, x11] m with
          | .nx e1 m1 => (match tBody e1 m1 with
            | .nx e2 m2 => sForL (f + 1) (i + 1) (itRng 0 8) (gN 2) tBody e2 m2
            | .ct e2 m2 => sForL (f + 1) (i + 1) (itRng 0 8) (gN 2) tBody e2 m2
            | .bk e2 m2 => .nx e2 m2
            | r => r)
          | .err x m1 => .err x m1
          | _ => .bad)) = _
      rw [hi]
      show (match tBody [x0, some (.ref p), some (.int (0 + (i : Int))), x3, x4, x5, x6, x7, x8, x9, x10, x11] m with
            | .nx e2 m2 => sForL (f + 1) (i + 1) (itRng 0 8) (gN 2) tBody e2 m2
            | .ct e2 m2 => sForL (f + 1) (i + 1) (itRng 0 8) (gN 2) tBody e2 m2
            | .bk e2 m2 => .nx e2 m2
            | r => r) = _
      rw [e1]
      exact r
theorem pen_ok (own : Bool) (ns : List Int) : ∃ p q ns' m, F__law_pen [.ref 0] (mem0 own ns) = .ok (.ref p) m ∧ Pen m p q ns' 0 0 := by
  have hl : lstOf (mem0 own ns) 0 = some (ns.map .int) := by
    unfold mem0 lstOf
    rw [Mem.get_new, if_pos rfl]
    cases own <;> rfl
  have h1 : eSl (eVar 0) oNone (oSome (eC (.int 63))) [some (.ref 0)] (mem0 own ns) = .ok (.ref 1) ((mem0 own ns).new (.lst ((cutD ns none (some 63)).map .int))) := by
    show (match lstOf (mem0 own ns) 0 with
      | some xs => Mi.R.ok (D.ref 1) ((mem0 own ns).new (.lst (cutD xs none (some 63))))
      | none => .bad) = _
    rw [hl]
    show Mi.R.ok (D.ref 1) ((mem0 own ns).new (.lst (cutD (ns.map D.int) none (some 63)))) = _
    rw [cut_map]
  have g1 : ((mem0 own ns).new (.lst ((cutD ns none (some 63)).map .int))).get 1 = some (.lst ((cutD ns none (some 63)).map .int)) := new_self (m := mem0 own ns)
  have h2 : (eCall fList (esCons (eSl (eVar 0) oNone (oSome (eC (.int 63)))) (esNil))) [some (.ref 0)] (mem0 own ns) = .ok (.ref 2) (((mem0 own ns).new (.lst ((cutD ns none (some 63)).map .int))).new (.lst ((cutD ns none (some 63)).map .int))) := by
    refine (v_one h1).trans ?_
    show (match lstOf ((mem0 own ns).new (.lst ((cutD ns none (some 63)).map .int))) 1 with
      | some xs => Mi.R.ok (D.ref 2) (((mem0 own ns).new (.lst ((cutD ns none (some 63)).map .int))).new (.lst xs))
      | none => .bad) = _
    rw [lstOf_lst g1]
  have h3 := v_lst (v_cons h2 (v_cons (v_c (d := .int 0)) (v_cons (v_c (d := .int 0)) v_nil))) (by show 3 ≤ 16777216; decide)
  refine ⟨3, 2, cutD ns none (some 63), _, fn_rt (s_ret h3), ⟨?_, ?_, by decide, Nat.lt_succ_self 3, Nat.lt_succ_of_lt (Nat.lt_succ_self 2), Int.le_refl _, Int.le_refl _⟩⟩
  · exact new_self (m := ((mem0 own ns).new (.lst ((cutD ns none (some 63)).map .int))).new (.lst ((cutD ns none (some 63)).map .int)))
  · rw [new_lt (Nat.lt_succ_self 2)]
    exact new_self (m := (mem0 own ns).new (.lst ((cutD ns none (some 63)).map .int)))
theorem law_ok (own : Bool) (ns : List Int) : ∃ m', F_law [.ref 0] (mem0 own ns) = .ok (.bl true) m' := by
  obtain ⟨p, q, ns', m, e1, hp⟩ := pen_ok own ns
  have h8 : srcRng1 (esCons (eC (.int 8)) (esNil)) [some (.ref 0), some (.ref p), none, none, none, none, none, none, none, none, none, none] m = .ok (9, itRng 0 8) m := srcRng1_ok (n := 8) (v_cons v_c v_nil) (by decide)
  obtain ⟨e', m1, e2⟩ := turns_ok 8 0 [some (.ref 0), some (.ref p), none, none, none, none, none, none, none, none, none, none] m 0 0 rfl rfl rfl hp (by decide)
  have e3 : sFor (srcRng1 (esCons (eC (.int 8)) (esNil))) (gN 2) tBody [some (.ref 0), some (.ref p), none, none, none, none, none, none, none, none, none, none] m = .nx e' m1 := (s_for h8).trans e2
  obtain ⟨m2, e4, o4⟩ := text_ok (m := m1.new (.lst [])) (x := .ref m1.next) (ws := []) (.inr ⟨_, rfl, Nat.lt_succ_self _, new_self⟩) (by decide) (fun w hw => by cases hw)
  refine ⟨m2, fn_rt ((s_seq (s_set ((v_fn (v_cons (v_var rfl) v_nil) rfl).trans e1))).trans ((s_seq e3).trans (s_ret ?_)))⟩
  have c1 : (eBin Mi.opEq (eFn F_course_text 1 [] (esCons (eLst (esNil)) (esNil))) (eC (.str []))) e' m1 = .ok (.bl true) m2 := (v_bin ((v_fn (v_cons (v_lst (ds := []) v_nil (by decide)) v_nil) rfl).trans e4) v_c).trans (eq_str rfl rfl)
  refine (v_andT c1).trans ((v_bin ((v_fn (v_cons v_c v_nil) rfl).trans read_nil) (v_tup (ds := []) v_nil (by decide))).trans (eqG_tup (neg := false) (ws := []) (fun w hw => by cases hw)))
end K81
end
theorem PySem.Challenge.cw_samecourse_k81_texts_of_courses_holds : PySem.Challenge.rw_samecourse_k81_texts_of_courses.Holds := by
  exact K81.holds_of fun ns own _ _ => K81.law_ok own ns
