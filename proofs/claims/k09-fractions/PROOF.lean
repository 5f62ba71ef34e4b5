import PyProof.Rows.All
import Wide.All
import OpenK.AllK
import Wide.FinOn
import HandS.ForMost
import HandS.ForExc
import HandS.Wide
import HandS.IsInst
import HandS.Deep
import HandS.ExcField
import PyProof.ReprRoads
import HandS.TupAny
import HandS.RaiseMore
import KE.KExcSuper
import HandS.ExcInit
import PySem.Challenge.RW_oddsmith_k09_fractions
import KE.IntTextLaws
import KE.IntTextText
import PyProof.StrLawsRepr
set_option Elab.async false
set_option linter.all false
set_option maxRecDepth 100000
/-! A pure evaluator for the data part of the language, over the hand layer: data, slots, the relation with the abstract heap. -/
namespace Eng
open PySem PySem.Spec PyProof.Rows L2

/-- data: what is carried by value; fn: the k-th def of the text -/
inductive D where
  | non | bl (b : Bool) | int (i : Int) | str (x : Str)
  | lst (xs : List D) | tup (xs : List D) | dct (ks : List Key) (vs : List D)
  | fn (k : Nat)
  deriving Inhabited
/-- the written part, and where the text's defs stand -/
structure Kx where
  k : PySem.W.Frag
  fa : Nat → Addr
  fx : List (Addr × List (Str × V)) := []

/-- a list that nobody writes any more -/
def FzL (K : Kx) (H : Hp) (a : Addr) (xs : List V) : Prop :=
  (∃ o, H a = some (.frz o (.lst xs))) ∨
    ∃ (its : List Value) (n : Nat), K.k.lookup a = some { cls := .type "list", data := .seq its.toArray n } ∧ its.length ≤ sizeLine ∧ Vals xs its
theorem FzL.seq {K : Kx} {H : Hp} {a : Addr} {xs : List V} (h : FzL K H a xs) : SqL K.k H a xs := by
  rcases h with ⟨o, h⟩ | ⟨its, n, h, hl, r⟩
  · exact .inl (.inr ⟨o, h⟩)
  · exact .inr ⟨_, its.toArray, n, h, rfl, rfl, rfl, by simpa using hl, by simpa using r⟩
def FzD (H : Hp) (a : Addr) (kvs : List (Key × V)) : Prop := ∃ o, H a = some (.frz o (.dK kvs))

mutual
inductive Fd (K : Kx) (H : Hp) : V → D → Prop
  | non : Fd K H .non .non
  | bl (b : Bool) : Fd K H (.bl b) (.bl b)
  | int (i : Int) : Fd K H (.int i) (.int i)
  | str (x : Str) : Fd K H (.str x) (.str x)
  | lst {a : Addr} {xs : List V} {ds : List D} : FzL K H a xs → Fds K H xs ds → Fd K H (.ref a) (.lst ds)
  | tup {a : Addr} {xs : List V} {ds : List D} : SqT K.k H a xs → Fds K H xs ds → Fd K H (.ref a) (.tup ds)
  | dct {a : Addr} {kvs : List (Key × V)} {ks : List Key} {vs : List D} : FzD H a kvs → kvs.map (·.1) = ks → Fds K H (kvs.map (·.2)) vs → Fd K H (.ref a) (.dct ks vs)
  | fn (j : Nat) : Fd K H (.ref (K.fa j)) (.fn j)
inductive Fds (K : Kx) (H : Hp) : List V → List D → Prop
  | nil : Fds K H [] []
  | cons {v : V} {vs : List V} {d : D} {ds : List D} : Fd K H v d → Fds K H vs ds → Fds K H (v :: vs) (d :: ds)
end

/-- tuples and frozen things stay -/
def KT (H H' : Hp) : Prop := (∀ b xs, H b = some (.tup xs) → H' b = some (.tup xs)) ∧ ∀ b o u, H b = some (.frz o u) → H' b = some (.frz o u)
theorem KT.refl (H : Hp) : KT H H := ⟨fun _ _ h => h, fun _ _ _ h => h⟩
theorem KT.trans {H H1 H2 : Hp} (a : KT H H1) (b : KT H1 H2) : KT H H2 := ⟨fun c xs h => b.1 c xs (a.1 c xs h), fun c o u h => b.2 c o u (a.2 c o u h)⟩
theorem KT.same {H H' : Hp} (h : Same H H') : KT H H' := ⟨fun b xs e => h b _ e, fun b o u e => h b _ e⟩
theorem FzL.kt {K : Kx} {H H' : Hp} {a : Addr} {xs : List V} (k : KT H H') (h : FzL K H a xs) : FzL K H' a xs := by
  rcases h with ⟨o, h⟩ | h
  · exact .inl ⟨o, k.2 _ _ _ h⟩
  · exact .inr h
theorem SqT.kt {K : Kx} {H H' : Hp} {a : Addr} {xs : List V} (k : KT H H') (h : SqT K.k H a xs) : SqT K.k H' a xs := by
  rcases h with (h | ⟨o, h⟩) | h
  · exact .inl (.inl (k.1 _ _ h))
  · exact .inl (.inr ⟨o, k.2 _ _ _ h⟩)
  · exact .inr h
theorem FzD.kt {H H' : Hp} {a : Addr} {kvs : List (Key × V)} (k : KT H H') (h : FzD H a kvs) : FzD H' a kvs := by
  obtain ⟨o, h⟩ := h
  exact ⟨o, k.2 _ _ _ h⟩
mutual
theorem Fd.kt {K : Kx} {H H' : Hp} (k : KT H H') {v : V} {d : D} (h : Fd K H v d) : Fd K H' v d := by
  cases h with
  | non => exact .non
  | bl b => exact .bl b
  | int i => exact .int i
  | str x => exact .str x
  | lst h hs => exact .lst (h.kt k) (Fds.kt k hs)
  | tup h hs => exact .tup (SqT.kt k h) (Fds.kt k hs)
  | dct h e hs => exact .dct (h.kt k) e (Fds.kt k hs)
  | fn j => exact .fn j
theorem Fds.kt {K : Kx} {H H' : Hp} (k : KT H H') {vs : List V} {ds : List D} (h : Fds K H vs ds) : Fds K H' vs ds := by
  cases h with
  | nil => exact .nil
  | cons a b => exact .cons (Fd.kt k a) (Fds.kt k b)
end
theorem Fds.length {K : Kx} {H : Hp} : ∀ {vs : List V} {ds : List D}, Fds K H vs ds → vs.length = ds.length
  | [], _, h => by cases h; rfl
  | _ :: vs, _, h => by
    cases h with
    | cons a b => simp [Fds.length b]
theorem Fds.get {K : Kx} {H : Hp} : ∀ {vs : List V} {ds : List D} {i : Nat} {d : D}, Fds K H vs ds → ds[i]? = some d → ∃ v, vs[i]? = some v ∧ Fd K H v d
  | [], _, i, d, h, e => by cases h; simp at e
  | v :: vs, _, 0, d, h, e => by
    cases h with
    | cons a b => simp at e; subst e; exact ⟨v, rfl, a⟩
  | v :: vs, _, i + 1, d, h, e => by
    cases h with
    | cons a b =>
      obtain ⟨v', h1, h2⟩ := Fds.get (i := i) b (by simpa using e)
      exact ⟨v', by simpa using h1, h2⟩
theorem Fds.getV {K : Kx} {H : Hp} : ∀ {vs : List V} {ds : List D} {i : Nat} {v : V}, Fds K H vs ds → vs[i]? = some v → ∃ d, ds[i]? = some d ∧ Fd K H v d
  | [], _, i, d, h, e => by simp at e
  | v :: vs, _, 0, d, h, e => by
    cases h with
    | cons a b => simp at e; subst e; exact ⟨_, rfl, a⟩
  | v :: vs, _, i + 1, d, h, e => by
    cases h with
    | cons a b =>
      obtain ⟨v', h1, h2⟩ := Fds.getV (i := i) b (by simpa using e)
      exact ⟨v', by simpa using h1, h2⟩
theorem Fds.append {K : Kx} {H : Hp} : ∀ {vs ws : List V} {ds es : List D}, Fds K H vs ds → Fds K H ws es → Fds K H (vs ++ ws) (ds ++ es)
  | [], _, _, _, h, g => by cases h; exact g
  | _ :: vs, _, _, _, h, g => by
    cases h with
    | cons a b => exact .cons a (Fds.append b g)
theorem Fds.set {K : Kx} {H : Hp} {v : V} {d : D} (r : Fd K H v d) : ∀ {vs : List V} {ds : List D} (i : Nat), Fds K H vs ds → Fds K H (vs.set i v) (ds.set i d)
  | [], _, i, h => by cases h; exact .nil
  | _ :: vs, _, 0, h => by
    cases h with
    | cons a b => exact .cons r b
  | _ :: vs, _, i + 1, h => by
    cases h with
    | cons a b => exact .cons a (Fds.set r i b)
theorem Fds.take {K : Kx} {H : Hp} : ∀ {vs : List V} {ds : List D} (n : Nat), Fds K H vs ds → Fds K H (vs.take n) (ds.take n)
  | _, _, 0, h => by simp; exact .nil
  | [], _, n + 1, h => by cases h; exact .nil
  | _ :: vs, _, n + 1, h => by
    cases h with
    | cons a b => exact .cons a (Fds.take n b)
theorem Fds.drop {K : Kx} {H : Hp} : ∀ {vs : List V} {ds : List D} (n : Nat), Fds K H vs ds → Fds K H (vs.drop n) (ds.drop n)
  | _, _, 0, h => by simpa using h
  | [], _, n + 1, h => by cases h; exact .nil
  | _ :: vs, _, n + 1, h => by
    cases h with
    | cons a b => exact Fds.drop n b
theorem Fds.dropLast {K : Kx} {H : Hp} {vs : List V} {ds : List D} (h : Fds K H vs ds) : Fds K H vs.dropLast ds.dropLast := by
  rw [List.dropLast_eq_take, List.dropLast_eq_take, h.length]
  exact h.take _
theorem Fds.reverse {K : Kx} {H : Hp} : ∀ {vs : List V} {ds : List D}, Fds K H vs ds → Fds K H vs.reverse ds.reverse
  | [], _, h => by cases h; exact .nil
  | _ :: vs, _, h => by
    cases h with
    | cons a b =>
      simp only [List.reverse_cons]
      exact (Fds.reverse b).append (.cons a .nil)

/-! ### the old data type -/
mutual
def D.py : D → PyData
  | .non => .none
  | .bl b => .bool b
  | .int i => .int i
  | .str x => .str x
  | .lst xs => .list (D.pys xs)
  | .tup xs => .tuple (D.pys xs)
  | .dct _ _ => .none
  | .fn _ => .none
def D.pys : List D → List PyData
  | [] => []
  | d :: ds => D.py d :: D.pys ds
end
mutual
/-- no dict, no function within -/
def D.plain : D → Bool
  | .non => true
  | .bl _ => true
  | .int _ => true
  | .str _ => true
  | .lst xs => D.plains xs
  | .tup xs => D.plains xs
  | .dct _ _ => false
  | .fn _ => false
def D.plains : List D → Bool
  | [] => true
  | d :: ds => D.plain d && D.plains ds
end
mutual
theorem Fd.dp {K : Kx} {H : Hp} {v : V} : ∀ {d : D}, Fd K H v d → D.plain d = true → Dp K.k H v (D.py d)
  | .non, h, _ => by cases h; exact .non
  | .bl b, h, _ => by cases h; exact .bl b
  | .int b, h, _ => by cases h; exact .int b
  | .str b, h, _ => by cases h; exact .str b
  | .lst ds, h, p => by
    cases h with
    | lst a b => exact .lst a.seq (Fds.dp b (by simpa [D.plain] using p))
  | .tup ds, h, p => by
    cases h with
    | tup a b => exact .tup a (Fds.dp b (by simpa [D.plain] using p))
  | .dct _ _, h, p => by simp [D.plain] at p
  | .fn _, h, p => by simp [D.plain] at p
theorem Fds.dp {K : Kx} {H : Hp} {vs : List V} : ∀ {ds : List D}, Fds K H vs ds → D.plains ds = true → DpAll K.k H vs (D.pys ds)
  | [], h, _ => by cases h; exact .nil
  | d :: ds, h, p => by
    cases h with
    | cons a b =>
      simp only [D.plains, Bool.and_eq_true] at p
      exact .cons (Fd.dp a p.1) (Fds.dp b p.2)
end

/-! ### slots -/
/-- what a list or a dict that may still be written holds -/
inductive MC where
  | lst (ds : List D) | dct (ks : List Key) (vs : List D)
def MC.d : MC → D
  | .lst ds => .lst ds
  | .dct ks vs => .dct ks vs
def MC.isL : MC → Bool
  | .lst _ => true
  | .dct _ _ => false
inductive Slo where
  | un | val (d : D) | mt (p : Bool) (c : MC)
abbrev Sls := List Slo
abbrev Sg := List (Option V)
def McOk (K : Kx) (H : Hp) : HO → MC → Prop
  | .lst xs, .lst ds => Fds K H xs ds
  | .dK kvs, .dct ks vs => kvs.map (·.1) = ks ∧ Fds K H (kvs.map (·.2)) vs
  | _, _ => False
theorem McOk.kt {K : Kx} {H H' : Hp} (k : KT H H') {o : HO} {c : MC} (h : McOk K H o c) : McOk K H' o c := by
  cases o <;> cases c <;> first
    | exact h.elim
    | exact Fds.kt k h
    | exact ⟨h.1, Fds.kt k h.2⟩
theorem McOk.mut {K : Kx} {H : Hp} {o : HO} {c : MC} (h : McOk K H o c) : L2.Mut (some o) := by
  cases o <;> cases c <;> first
    | exact h.elim
    | exact trivial
theorem McOk.frz {K : Kx} {H : Hp} {o : HO} {c : MC} {a : Addr} {ob : Obj} (h : McOk K H o c) (e : H a = some (.frz ob o)) : Fd K H (.ref a) c.d := by
  cases o <;> cases c <;> first
    | exact h.elim
    | exact .lst (.inl ⟨ob, e⟩) h
    | exact .dct ⟨ob, e⟩ h.1 h.2
theorem McOk.nfz {K : Kx} {H : Hp} {o : HO} {c : MC} (h : McOk K H o c) : (∀ xs, o ≠ .tup xs) ∧ ∀ ob u, o ≠ .frz ob u := by
  cases o <;> cases c <;> first
    | exact h.elim
    | exact ⟨(fun _ z => by cases z), (fun _ _ z => by cases z)⟩
theorem McOk.nxd {K : Kx} {H : Hp} {o : HO} {c : MC} (h : McOk K H o c) (fs : List (Str × V)) : o ≠ .xd fs := by
  cases o <;> cases c <;> first
    | exact h.elim
    | exact (fun z => by cases z)

/-- slot i holds a thing at b that may be written -/
def MwI (σ : Sg) (e : Sls) (i : Nat) (b : Addr) : Prop := σ[i]? = some (some (V.ref b)) ∧ ∃ p c, e[i]? = some (Slo.mt p c)
def Mw (σ : Sg) (e : Sls) (b : Addr) : Prop := ∃ i, MwI σ e i b
/-- .. a parameter's (true), its own (false) -/
def Mp (p : Bool) (σ : Sg) (e : Sls) (b : Addr) : Prop := ∃ (i : Nat) (c : MC), σ[i]? = some (some (V.ref b)) ∧ e[i]? = some (Slo.mt p c)
theorem Mw.mp {σ : Sg} {e : Sls} {b : Addr} (m : Mw σ e b) : ∃ p, Mp p σ e b := by
  obtain ⟨i, h1, p, c, h2⟩ := m
  exact ⟨p, i, c, h1, h2⟩
theorem Mp.mw {p : Bool} {σ : Sg} {e : Sls} {b : Addr} (m : Mp p σ e b) : Mw σ e b := by
  obtain ⟨i, c, h1, h2⟩ := m
  exact ⟨i, h1, p, c, h2⟩
structure EnvOk (K : Kx) (H : Hp) (σ : Sg) (e : Sls) : Prop where
  len : List.length σ = List.length e
  val : ∀ (i : Nat) (d : D), e[i]? = some (Slo.val d) → ∃ v, σ[i]? = some (some v) ∧ Fd K H v d
  mt : ∀ (i : Nat) (p : Bool) (c : MC), e[i]? = some (Slo.mt p c) → ∃ a o, σ[i]? = some (some (V.ref a)) ∧ H a = some o ∧ McOk K H o c
  inj : ∀ (i j : Nat) (a : Addr), MwI σ e i a → MwI σ e j a → i = j
  fix : ∀ (b : Addr) (fs : List (Str × V)), (b, fs) ∈ K.fx → H b = some (.xd fs)
/-- what a piece of code has done -/
structure Go (K : Kx) (σ : Sg) (e : Sls) (H : Hp) (σ' : Sg) (e' : Sls) (H' : Hp) : Prop where
  env : EnvOk K H' σ' e'
  keep : ∀ b o, H b = some o → ¬ Mw σ e b → H' b = some o
  mp : ∀ (p : Bool) (b : Addr), Mp p σ' e' b → Mp p σ e b ∨ H b = none
  par : ∀ (i : Nat) (c : MC), e'[i]? = some (Slo.mt true c) → (∃ c', e[i]? = some (Slo.mt true c')) ∧ σ'[i]? = σ[i]?
  there : ∀ (b : Addr), Mw σ e b → ∃ o, H' b = some o
/-- .. an expression: no slot's value turns, no slot gets a new thing -/
structure Ge (K : Kx) (σ : Sg) (e : Sls) (H : Hp) (e' : Sls) (H' : Hp) : Prop where
  env : EnvOk K H' σ e'
  keep : ∀ b o, H b = some o → ¬ Mw σ e b → H' b = some o
  mu : ∀ (i : Nat) (p : Bool) (c : MC), e'[i]? = some (Slo.mt p c) → ∃ c', e[i]? = some (Slo.mt p c') ∧ c'.isL = c.isL
  there : ∀ (b : Addr), Mw σ e b → ∃ o, H' b = some o
section
variable {K : Kx} {σ σ' σ'' : Sg} {e e' e'' : Sls} {H H' H'' : Hp}
theorem EnvOk.mu (E : EnvOk K H σ e) {b : Addr} (m : Mw σ e b) : ∃ o c, H b = some o ∧ McOk K H o c := by
  obtain ⟨i, h1, p, c, h2⟩ := m
  obtain ⟨a, o, q1, q2, q3⟩ := E.mt i p c h2
  rw [h1] at q1
  cases q1
  exact ⟨o, c, q2, q3⟩
theorem keep_there {e' : Sls} {c : Addr} (k : ∀ b o, H b = some o → ¬ Mw σ e' b → H' b = some o) (t : ∀ (b : Addr), Mw σ e' b → ∃ o, H' b = some o) (h : ∃ o, H c = some o) : ∃ o, H' c = some o := by
  obtain ⟨o, h⟩ := h
  by_cases q : Mw σ e' c
  · exact t c q
  · exact ⟨o, k c o h q⟩
theorem EnvOk.keepKT (E : EnvOk K H σ e) (k : ∀ b o, H b = some o → ¬ Mw σ e b → H' b = some o) : KT H H' := by
  refine ⟨fun b xs h => k b _ h fun m => ?_, fun b o u h => k b _ h fun m => ?_⟩
  · obtain ⟨o', c, h1, h2⟩ := E.mu m
    rw [h] at h1
    cases h1
    exact h2.nfz.1 _ rfl
  · obtain ⟨o', c, h1, h2⟩ := E.mu m
    rw [h] at h1
    cases h1
    exact h2.nfz.2 _ _ rfl
theorem Go.mu (g : Go K σ e H σ' e' H') {b : Addr} (m : Mw σ' e' b) : Mw σ e b ∨ H b = none := by
  obtain ⟨p, q⟩ := m.mp
  rcases g.mp p b q with z | z
  · exact .inl z.mw
  · exact .inr z
theorem Go.kt (E : EnvOk K H σ e) (g : Go K σ e H σ' e' H') : KT H H' := E.keepKT g.keep
theorem Ge.kt (E : EnvOk K H σ e) (g : Ge K σ e H e' H') : KT H H' := E.keepKT g.keep
theorem Ge.muI (g : Ge K σ e H e' H') {i : Nat} {b : Addr} (m : MwI σ e' i b) : MwI σ e i b := by
  obtain ⟨h1, p, c, h2⟩ := m
  obtain ⟨c', h3, _⟩ := g.mu i p c h2
  exact ⟨h1, p, c', h3⟩
theorem Ge.muS (g : Ge K σ e H e' H') {b : Addr} (m : Mw σ e' b) : Mw σ e b := let ⟨i, h⟩ := m; ⟨i, g.muI h⟩
theorem Ge.go (g : Ge K σ e H e' H') : Go K σ e H σ e' H' := ⟨g.env, g.keep, fun p b ⟨i, c, h1, h2⟩ => .inl (let ⟨c', h3, _⟩ := g.mu i p c h2; ⟨i, c', h1, h3⟩), fun i c h => ⟨let ⟨c', h3, _⟩ := g.mu i true c h; ⟨c', h3⟩, rfl⟩, g.there⟩
theorem Go.refl (E : EnvOk K H σ e) : Go K σ e H σ e H := ⟨E, fun _ _ h _ => h, fun _ _ h => .inl h, fun i c h => ⟨⟨c, h⟩, rfl⟩, fun b m => let ⟨o, _, h, _⟩ := E.mu m; ⟨o, h⟩⟩
theorem Ge.refl (E : EnvOk K H σ e) : Ge K σ e H e H := ⟨E, fun _ _ h _ => h, fun _ _ c h => ⟨c, h, rfl⟩, fun b m => let ⟨o, _, h, _⟩ := E.mu m; ⟨o, h⟩⟩
theorem Ge.trans (a : Ge K σ e H e' H') (b : Ge K σ e' H' e'' H'') : Ge K σ e H e'' H'' :=
  ⟨b.env, fun c o h n => b.keep c o (a.keep c o h n) fun m => n (a.muS m), fun i p c h => let ⟨c', h', k'⟩ := b.mu i p c h; let ⟨c2, h2, k2⟩ := a.mu i p c' h'; ⟨c2, h2, k2.trans k'⟩, fun c m => keep_there b.keep b.there (a.there c m)⟩
theorem Go.trans (a : Go K σ e H σ' e' H') (b : Go K σ' e' H' σ'' e'' H'') : Go K σ e H σ'' e'' H'' := by
  refine ⟨b.env, fun c o h n => ?_, fun p c m => ?_, fun i c h => ?_, fun c m => ?_⟩
  · refine b.keep c o (a.keep c o h n) fun m => ?_
    rcases a.mu m with z | z
    · exact n z
    · rw [h] at z; cases z
  · rcases b.mp p c m with z | z
    · exact a.mp p c z
    · right
      cases r : H c with
      | none => rfl
      | some o =>
        by_cases q : Mw σ e c
        · exact absurd z (by
            obtain ⟨o', h'⟩ := a.there c q
            rw [h']
            exact fun z => by cases z)
        · rw [a.keep c o r q] at z
          cases z
  · obtain ⟨⟨c', h'⟩, e1⟩ := b.par i c h
    obtain ⟨h2, e2⟩ := a.par i c' h'
    exact ⟨h2, e1.trans e2⟩
  · exact keep_there b.keep b.there (a.there c m)
theorem EnvOk.same (E : EnvOk K H σ e) (s : L2.Same H H') : EnvOk K H' σ e := by
  refine ⟨E.len, fun i d h => ?_, fun i p c h => ?_, E.inj, fun b fs h => s _ _ (E.fix b fs h)⟩
  · obtain ⟨v, h1, h2⟩ := E.val i d h
    exact ⟨v, h1, h2.kt (KT.same s)⟩
  · obtain ⟨a, o, h1, h2, h3⟩ := E.mt i p c h
    exact ⟨a, o, h1, s _ _ h2, h3.kt (KT.same s)⟩
theorem Ge.same (E : EnvOk K H σ e) (s : L2.Same H H') : Ge K σ e H e H' := ⟨E.same s, fun b o h _ => s b o h, fun _ _ c h => ⟨c, h, rfl⟩, fun b m => let ⟨o, _, h, _⟩ := E.mu m; ⟨o, s _ _ h⟩⟩
/-- a free place is no slot's -/
theorem EnvOk.freeI (E : EnvOk K H σ e) {b : Addr} (h : H b = none) : ¬ Mw σ e b := fun m => by
  obtain ⟨o, c, q, _⟩ := E.mu m
  rw [h] at q
  cases q

theorem set_mt {i j : Nat} {s : Slo} {p : Bool} {c : MC} (hs : ∀ p c, s ≠ Slo.mt p c) (h : (e.set i s)[j]? = some (Slo.mt p c)) : j ≠ i ∧ e[j]? = some (Slo.mt p c) := by
  by_cases hj : i = j
  · subst hj
    by_cases hl : i < e.length
    · rw [List.getElem?_set_self hl] at h
      exact absurd (Option.some.inj h) (hs p c)
    · rw [List.getElem?_eq_none (by simpa using hl)] at h; cases h
  · rw [List.getElem?_set_ne hj] at h
    exact ⟨fun z => hj z.symm, h⟩
theorem set_get {i j : Nat} {s t : Slo} (h : (e.set i s)[j]? = some t) : (j = i ∧ t = s ∧ i < e.length) ∨ (j ≠ i ∧ e[j]? = some t) := by
  by_cases hj : i = j
  · subst hj
    by_cases hl : i < e.length
    · rw [List.getElem?_set_self hl] at h
      exact .inl ⟨rfl, (Option.some.inj h).symm, hl⟩
    · rw [List.getElem?_eq_none (by simpa using hl)] at h; cases h
  · rw [List.getElem?_set_ne hj] at h
    exact .inr ⟨fun z => hj z.symm, h⟩
/-- a value is stored in a slot that holds no parameter's thing -/
theorem Go.store (E : EnvOk K H σ e) {i : Nat} {v : V} {d : D} (r : Fd K H v d) : Go K σ e H (σ.set i (some v)) (e.set i (.val d)) H := by
  have hm : ∀ j b, MwI (σ.set i (some v)) (e.set i (.val d)) j b → j ≠ i ∧ MwI σ e j b := fun j b ⟨h1, p, c, h2⟩ => by
    obtain ⟨hj, q⟩ := set_mt (fun _ _ z => by cases z) h2
    rw [List.getElem?_set_ne (Ne.symm hj)] at h1
    exact ⟨hj, h1, p, c, q⟩
  refine ⟨⟨by simp [E.len], fun j d' h => ?_, fun j p c h => ?_, fun j k a hj hk => E.inj j k a (hm j a hj).2 (hm k a hk).2, E.fix⟩, fun _ _ h _ => h, fun p b ⟨j, c, h1, h2⟩ => .inl ?_, fun j c h => ?_, fun b m => let ⟨o, _, h, _⟩ := E.mu m; ⟨o, h⟩⟩
  · rcases set_get h with ⟨rfl, q, hl⟩ | ⟨hj, q⟩
    · cases q
      exact ⟨v, by rw [List.getElem?_set_self (by rw [E.len]; exact hl)], r⟩
    · rw [List.getElem?_set_ne (Ne.symm hj)]
      exact E.val j d' q
  · obtain ⟨hj, q⟩ := set_mt (fun _ _ z => by cases z) h
    rw [List.getElem?_set_ne (Ne.symm hj)]
    exact E.mt j p c q
  · obtain ⟨hj, q⟩ := set_mt (fun _ _ z => by cases z) h2
    rw [List.getElem?_set_ne (Ne.symm hj)] at h1
    exact ⟨j, c, h1, q⟩
  · obtain ⟨hj, q⟩ := set_mt (fun _ _ z => by cases z) h
    rw [List.getElem?_set_ne (Ne.symm hj)]
    exact ⟨⟨c, q⟩, rfl⟩
/-- .. a fresh thing -/
theorem Go.storeM {σ0 : Sg} {i : Nat} {a : Addr} {o : HO} {c : MC} (ha : H a = some o) (hm : ¬ Mw σ e a) (r : McOk K H o c) {H0 : Hp} {e0 : Sls} (g : Go K σ0 e0 H0 σ e H) (h0 : H0 a = none ∨ Mp false σ0 e0 a) :
    Go K σ0 e0 H0 (σ.set i (some (.ref a))) (e.set i (.mt false c)) H := by
  have E := g.env
  have hmI : ∀ j b, MwI (σ.set i (some (.ref a))) (e.set i (.mt false c)) j b → (j = i ∧ b = a) ∨ (j ≠ i ∧ MwI σ e j b) := fun j b ⟨h1, p, c', h2⟩ => by
    rcases set_get h2 with ⟨rfl, q, hl⟩ | ⟨hj, q⟩
    · rw [List.getElem?_set_self (by rw [E.len]; exact hl)] at h1
      cases h1
      exact .inl ⟨rfl, rfl⟩
    · rw [List.getElem?_set_ne (Ne.symm hj)] at h1
      exact .inr ⟨hj, h1, p, c', q⟩
  refine ⟨⟨by simp [E.len], fun j d' h => ?_, fun j p c' h => ?_, fun j k b hj hk => ?_, E.fix⟩, g.keep, fun p b ⟨j, c', h1, h2⟩ => ?_, fun j c' h => ?_, g.there⟩
  · rcases set_get h with ⟨rfl, q, hl⟩ | ⟨hj, q⟩
    · cases q
    · rw [List.getElem?_set_ne (Ne.symm hj)]
      exact E.val j d' q
  · rcases set_get h with ⟨rfl, q, hl⟩ | ⟨hj, q⟩
    · cases q
      exact ⟨a, o, by rw [List.getElem?_set_self (by rw [E.len]; exact hl)], ha, r⟩
    · rw [List.getElem?_set_ne (Ne.symm hj)]
      exact E.mt j p c' q
  · rcases hmI j b hj with ⟨rfl, rfl⟩ | ⟨_, m1⟩
    · rcases hmI k b hk with ⟨rfl, _⟩ | ⟨_, m2⟩
      · rfl
      · exact absurd ⟨k, m2⟩ hm
    · rcases hmI k b hk with ⟨rfl, rfl⟩ | ⟨_, m2⟩
      · exact absurd ⟨j, m1⟩ hm
      · exact E.inj j k b m1 m2
  · rcases set_get h2 with ⟨rfl, q, hl⟩ | ⟨hj, q⟩
    · rw [List.getElem?_set_self (by rw [E.len]; exact hl)] at h1
      cases h1
      cases q
      exact h0.elim .inr .inl
    · rw [List.getElem?_set_ne (Ne.symm hj)] at h1
      exact g.mp p b ⟨j, c', h1, q⟩
  · rcases set_get h with ⟨rfl, q, hl⟩ | ⟨hj, q⟩
    · cases q
    · rw [List.getElem?_set_ne (Ne.symm hj)]
      exact g.par j c' q
/-- a slot's thing is locked for good -/
theorem Ge.freeze (E : EnvOk K H σ e) {i : Nat} {c : MC} {a : Addr} {o : HO} {ob : Obj} (hi : e[i]? = some (.mt false c)) (ha : σ[i]? = some (some (.ref a))) (ho : H a = some o) (r : McOk K H o c) :
    Ge K σ e H (e.set i (.val c.d)) (upd H a (.frz ob o)) ∧ Fd K (upd H a (.frz ob o)) (.ref a) c.d := by
  have mu : MwI σ e i a := ⟨ha, _, _, hi⟩
  have kt : KT H (upd H a (.frz ob o)) := by
    refine ⟨fun b xs h => ?_, fun b o' u h => ?_⟩
    · rw [upd_ne (fun z => by rw [z, ho] at h; cases h; exact r.nfz.1 _ rfl)]; exact h
    · rw [upd_ne (fun z => by rw [z, ho] at h; cases h; exact r.nfz.2 _ _ rfl)]; exact h
  have fin := (r.kt kt).frz (ob := ob) upd_same
  have fixx : ∀ (b : Addr) (fs : List (Str × V)), (b, fs) ∈ K.fx → (upd H a (.frz ob o)) b = some (.xd fs) := fun b fs h => by
    have q := E.fix b fs h
    rw [upd_ne (fun z => by rw [z, ho] at q; cases q; exact r.nxd _ rfl)]
    exact q
  refine ⟨⟨⟨by simp [E.len], fun j d' h => ?_, fun j p c' h => ?_, fun j k b hj hk => ?_, fixx⟩, fun b o' h n => ?_, fun j p c' h => ?_, fun b m => ?_⟩, fin⟩
  · rcases set_get h with ⟨rfl, q, hl⟩ | ⟨hj, q⟩
    · cases q
      exact ⟨_, ha, fin⟩
    · obtain ⟨v, h1, h2⟩ := E.val j d' q
      exact ⟨v, h1, h2.kt kt⟩
  · obtain ⟨hj, q⟩ := set_mt (fun _ _ z => by cases z) h
    obtain ⟨a', o', h1, h2, h3⟩ := E.mt j p c' q
    have ne : a' ≠ a := fun z => hj (E.inj j i a ⟨by rw [← z]; exact h1, _, _, q⟩ mu)
    exact ⟨a', o', h1, by rw [upd_ne ne]; exact h2, h3.kt kt⟩
  · obtain ⟨h1, p, c1, h2⟩ := hj
    obtain ⟨h3, p', c2, h4⟩ := hk
    exact E.inj j k b ⟨h1, p, c1, (set_mt (fun _ _ z => by cases z) h2).2⟩ ⟨h3, p', c2, (set_mt (fun _ _ z => by cases z) h4).2⟩
  · rw [upd_ne (fun z => n (by rw [z]; exact ⟨i, mu⟩))]
    exact h
  · exact ⟨c', (set_mt (fun _ _ z => by cases z) h).2, rfl⟩
  · by_cases z : b = a
    · exact ⟨_, by rw [z]; exact upd_same⟩
    · obtain ⟨o', _, h, _⟩ := E.mu m
      exact ⟨o', by rw [upd_ne z]; exact h⟩
/-- a slot's thing is written -/
theorem Ge.write (E : EnvOk K H σ e) {i : Nat} {p : Bool} {c c' : MC} {a : Addr} {o o' : HO} (hi : e[i]? = some (.mt p c)) (ha : σ[i]? = some (some (.ref a))) (ho : H a = some o) (r0 : McOk K H o c) (r : McOk K H o' c') (hk : c'.isL = c.isL) :
    Ge K σ e H (e.set i (.mt p c')) (upd H a o') := by
  have mu : MwI σ e i a := ⟨ha, _, _, hi⟩
  have kt : KT H (upd H a o') := by
    refine ⟨fun b xs h => ?_, fun b o' u h => ?_⟩
    · rw [upd_ne (fun z => by rw [z, ho] at h; cases h; exact r0.nfz.1 _ rfl)]; exact h
    · rw [upd_ne (fun z => by rw [z, ho] at h; cases h; exact r0.nfz.2 _ _ rfl)]; exact h
  have hmI : ∀ j b, MwI σ (e.set i (.mt p c')) j b → MwI σ e j b := fun j b ⟨h1, p', c1, h2⟩ => by
    rcases set_get h2 with ⟨rfl, q, hl⟩ | ⟨hj, q⟩
    · exact ⟨h1, p, c, hi⟩
    · exact ⟨h1, p', c1, q⟩
  have fixx : ∀ (b : Addr) (fs : List (Str × V)), (b, fs) ∈ K.fx → (upd H a o') b = some (.xd fs) := fun b fs h => by
    have q := E.fix b fs h
    rw [upd_ne (fun z => by rw [z, ho] at q; cases q; exact r0.nxd _ rfl)]
    exact q
  refine ⟨⟨by simp [E.len], fun j d' h => ?_, fun j p' c1 h => ?_, fun j k b hj hk => E.inj j k b (hmI j b hj) (hmI k b hk), fixx⟩, fun b u h n => ?_, fun j p' c1 h => ?_, fun b m => ?_⟩
  · rcases set_get h with ⟨rfl, q, hl⟩ | ⟨hj, q⟩
    · cases q
    · obtain ⟨v, h1, h2⟩ := E.val j d' q
      exact ⟨v, h1, h2.kt kt⟩
  · rcases set_get h with ⟨rfl, q, hl⟩ | ⟨hj, q⟩
    · cases q
      exact ⟨a, o', ha, upd_same, r.kt kt⟩
    · obtain ⟨a', u, h1, h2, h3⟩ := E.mt j p' c1 q
      have ne : a' ≠ a := fun z => hj (E.inj j i a ⟨by rw [← z]; exact h1, _, _, q⟩ mu)
      exact ⟨a', u, h1, by rw [upd_ne ne]; exact h2, h3.kt kt⟩
  · rw [upd_ne (fun z => n (by rw [z]; exact ⟨i, mu⟩))]
    exact h
  · rcases set_get h with ⟨rfl, q, hl⟩ | ⟨hj, q⟩
    · cases q
      exact ⟨c, hi, hk.symm⟩
    · exact ⟨c1, q, rfl⟩
  · by_cases z : b = a
    · exact ⟨_, by rw [z]; exact upd_same⟩
    · obtain ⟨o', _, h, _⟩ := E.mu m
      exact ⟨o', by rw [upd_ne z]; exact h⟩
end
end Eng

set_option Elab.async false
set_option linter.all false
set_option maxRecDepth 100000
/-! The evaluator: a small language over data, what the code of a def is turned into. -/
namespace Eng
open PySem L2

/-- what an expression at a root gives: a value, or a new thing that may be written -/
inductive RV where
  | v (d : D) | fr (c : MC)
def RV.d : RV → D
  | .v d => d
  | .fr c => c.d
/-- an exception: its class (a number of the table), the one value it carries -/
structure Exn where
  cls : Nat
  arg : Option D
inductive Out (α : Type) where
  | ok (a : α) (e : Sls) | exc (x : Exn) (e : Sls) | stuck
def Out.bind {α β : Type} : Out α → (α → Sls → Out β) → Out β
  | .ok a e, k => k a e
  | .exc x e, _ => .exc x e
  | .stuck, _ => .stuck
def Out.opt {α : Type} (o : Option α) (e : Sls) : Out α := match o with
  | some a => .ok a e
  | none => .stuck
/-- nothing is let out -/
def Out.nox {α : Type} : Out α → Out α
  | .exc _ _ => .stuck
  | o => o
inductive FOut where
  | ok (r : RV) (ar : Sls) | exc (x : Exn) (ar : Sls) | stuck
/-- the defs by number; which class catches which; how often a while may turn -/
structure Tab where
  run : Nat → Sls → FOut
  sub : Nat → Nat → Bool
  fuel : Nat
  nf : Nat

/-- a target: a slot, a tuple of targets -/
inductive Tg where
  | n (i : Nat) | t (l : List Tg)
mutual
inductive IE where
  | c (d : D) | v (i : Nat) | prim (f : List D → Option D) (as : IEs)
  | slot (i : Nat) (f : MC → List D → Option D) (as : IEs)
  | smut (k : Bool) (i : Nat) (f : MC → List D → Option (MC × D)) (as : IEs)
  | chain (f g : List D → Option D) (a b c : IE)
  | ite (t a b : IE) | and (a b : IE) | or (a b : IE) | not (a : IE)
  | call (f : Nat) (as : IAs) | dcall (g : IE) (as : IAs)
  | comp (own : List Nat) (tg : Tg) (it : II) (t : IE) (elt : IE)
inductive IEs where
  | nil | cons (a : IE) (r : IEs)
inductive IAs where
  | nil | e (a : IE) (r : IAs) | s (i : Nat) (r : IAs)
inductive II where
  | mk (f : List D → Option (List D)) (as : IEs)
end
/-- an expression at a root -/
inductive IR where
  | val (e : IE) | fr (f : List D → Option MC) (as : IEs) | call (f : Nat) (as : IAs)
  | comp (own : List Nat) (tg : Tg) (it : II) (t : IE) (elt : IE) | mv (i : Nat)
inductive IS where
  | nop | seq (a b : IS) | put (tg : Tg) (e : IE) | setm (i : Nat) (r : IR) | par (i j : Nat) (a b : IR) | ex (e : IE) | aug (i : Nat) (f : List D → Option D) (a : IE)
  | ret (r : IR) | ife (t : IE) (a b : IS) | for (tg : Tg) (it : II) (b : IS) | while (t : IE) (b : IS) | brk | cnt
  | raise (k : Nat) (f : List D → Option (Option D)) (as : IEs) | try (b : IS) (k : Nat) (i : List Nat) (h : Option D → IS)
inductive SO where
  | nx (e : Sls) | ret (r : RV) (e : Sls) | brk (e : Sls) | cnt (e : Sls) | exc (x : Exn) (e : Sls) | stuck

/-! ### slots read and written -/
def rdV (e : Sls) (i : Nat) : Out D := match e[i]? with
  | some (.val d) => .ok d e
  | some (.mt false c) => .ok c.d (e.set i (.val c.d))
  | _ => .stuck
def D.mc : D → Option MC
  | .lst ds => some (.lst ds)
  | .dct ks vs => some (.dct ks vs)
  | _ => none
def rdM (e : Sls) (i : Nat) : Option MC := match e[i]? with
  | some (.mt _ c) => some c
  | some (.val d) => d.mc
  | _ => none
def wrM (e : Sls) (i : Nat) (c : MC) : Option Sls := match e[i]? with
  | some (.mt p c0) => if c.isL = c0.isL then some (e.set i (.mt p c)) else none
  | _ => none
def bnd (e : Sls) (i : Nat) : Bool := match e[i]? with
  | some (.val _) => true
  | some (.mt _ _) => true
  | _ => false
def bndM (e : Sls) (i : Nat) (k : Bool) : Bool := match e[i]? with
  | some (.mt _ c) => c.isL == k
  | _ => false
/-- a value is bound -/
def putN (i : Nat) (d : D) (e : Sls) : Option Sls := match e[i]? with
  | some (.mt true _) => none
  | some _ => some (e.set i (.val d))
  | none => none
mutual
def Tg.put : Tg → D → Sls → Option Sls
  | .n i, d, e => putN i d e
  | .t l, .tup ds, e => Tg.puts l ds e
  | .t _, _, _ => none
def Tg.puts : List Tg → List D → Sls → Option Sls
  | [], [], e => some e
  | g :: l, d :: ds, e => (Tg.put g d e).bind fun e' => Tg.puts l ds e'
  | _, _, _ => none
end
def wipeS (e : Sls) : List Nat → Sls
  | [] => e
  | v :: vs => (wipeS e vs).set v .un
/-- none of these slots holds a thing that may be written -/
def ownOk (e : Sls) : List Nat → Bool
  | [] => true
  | v :: vs => (match e[v]? with
    | some (.mt _ _) => false
    | some _ => true
    | none => false) && ownOk e vs
mutual
def Tg.slots : Tg → List Nat
  | .n i => [i]
  | .t l => Tg.slotss l
def Tg.slotss : List Tg → List Nat
  | [] => []
  | g :: l => Tg.slots g ++ Tg.slotss l
end
/-- the own slots as they were -/
def backS (e0 : Sls) (e : Sls) : List Nat → Sls
  | [] => e
  | v :: vs => match e0[v]? with
    | some s => (backS e0 e vs).set v s
    | none => backS e0 e vs

/-! ### calls -/
inductive AV where
  | d (d : D) | s (i : Nat)
def mkArg (e : Sls) : AV → Option Slo
  | .d d => some (.val d)
  | .s i => match e[i]? with
    | some (.mt _ c) => some (.mt true c)
    | some (.val d) => some (.val d)
    | _ => none
def mkArgs (e : Sls) : List AV → Option Sls
  | [] => some []
  | a :: as => (mkArg e a).bind fun s => (mkArgs e as).map fun r => s :: r
def isS (e : Sls) : AV → List Nat
  | .s i => match e[i]? with
    | some (.mt _ _) => [i]
    | _ => []
  | _ => []
def noTwice : List Nat → Bool
  | [] => true
  | a :: as => !(as.contains a) && noTwice as
def putBack (e : Sls) : List AV → Sls → Sls
  | .s i :: as, s :: ar => match e[i]?, s with
    | some (.mt p _), .mt _ c => putBack (e.set i (.mt p c)) as ar
    | _, _ => putBack e as ar
  | _ :: as, _ :: ar => putBack e as ar
  | _, _ => e
def callF (T : Tab) (f : Nat) (avs : List AV) (e : Sls) : Out RV :=
  if noTwice (avs.flatMap (isS e)) then
    match mkArgs e avs with
    | some ar => match T.run f ar with
      | .ok r ar' => .ok r (putBack e avs ar')
      | .exc x ar' => .exc x (putBack e avs ar')
      | .stuck => .stuck
    | none => .stuck
  else .stuck

/-! ### loops -/
def evComp (body : D → Sls → Out (Option D)) : List D → List D → Sls → Out (List D)
  | [], acc, e => .ok acc e
  | x :: xs, acc, e => (body x e).bind fun o e' => evComp body xs (match o with | some d => acc ++ [d] | none => acc) e'
/-- one turn of a comprehension -/
def cBody (put : D → Sls → Option Sls) (own : List Nat) (t elt : Sls → Out D) : D → Sls → Out (Option D) := fun x e => match put x (wipeS e own) with
  | none => .stuck
  | some e2 => (t e2).bind fun b e3 => match b with
    | .bl true => (elt e3).bind fun d e4 => .ok (some d) e4
    | .bl false => .ok none e3
    | _ => .stuck
/-- a turn's end: on with k -/
def SO.loop : SO → (Sls → SO) → SO
  | .nx e, k => k e
  | .cnt e, k => k e
  | .brk e, _ => .nx e
  | o, _ => o
def SO.putThen (o : Option Sls) (k : Sls → SO) : SO := match o with
  | some e => k e
  | none => .stuck
def evFor (put : D → Sls → Option Sls) (body : Sls → SO) : List D → Sls → SO
  | [], e => .nx e
  | x :: xs, e => .putThen (put x e) fun e1 => (body e1).loop fun e2 => evFor put body xs e2
def SO.ifb (d : D) (a b : SO) : SO := match d with
  | .bl true => a
  | .bl false => b
  | _ => .stuck
def Out.so {α : Type} : Out α → (α → Sls → SO) → SO
  | .ok a e1, k => k a e1
  | .exc x e1, _ => .exc x e1
  | .stuck, _ => .stuck
def evWh (t : Sls → Out D) (body : Sls → SO) : Nat → Sls → SO
  | 0, _ => .stuck
  | n + 1, e => (t e).so fun d e1 => .ifb d ((body e1).loop fun e2 => evWh t body n e2) (.nx e1)
/-- what a root gives is bound -/
def stR (i : Nat) (r : RV) (e : Sls) : Option Sls := match e[i]? with
  | some (.mt true _) => none
  | some _ => some (match r with
    | .v d => e.set i (.val d)
    | .fr c => e.set i (.mt false c))
  | none => none
def SO.seq : SO → (Sls → SO) → SO
  | .nx e, k => k e
  | o, _ => o

mutual
def ev (T : Tab) : IE → Sls → Out D
  | .c d, e => .ok d e
  | .v i, e => rdV e i
  | .prim f as, e => (evs T as e).bind fun ds e1 => .opt (f ds) e1
  | .slot i f as, e => if !bnd e i then .stuck else (evs T as e).bind fun ds e1 => .opt ((rdM e1 i).bind fun c => f c ds) e1
  | .smut k i f as, e => if !bndM e i k then .stuck else (evs T as e).bind fun ds e1 => match (rdM e1 i).bind fun c => f c ds with
    | some (c', d) => (match wrM e1 i c' with
      | some e2 => .ok d e2
      | none => .stuck)
    | none => .stuck
  | .chain f g a b c, e => (ev T a e).bind fun d1 e1 => (ev T b e1).bind fun d2 e2 => match f [d1, d2] with
    | some (.bl true) => (ev T c e2).bind fun d3 e3 => .opt (g [d2, d3]) e3
    | some (.bl false) => .ok (.bl false) e2
    | _ => .stuck
  | .ite t a b, e => (ev T t e).bind fun d e1 => match d with
    | .bl true => ev T a e1
    | .bl false => ev T b e1
    | _ => .stuck
  | .and a b, e => (ev T a e).bind fun d e1 => match d with
    | .bl true => ev T b e1
    | .bl false => .ok (.bl false) e1
    | _ => .stuck
  | .or a b, e => (ev T a e).bind fun d e1 => match d with
    | .bl true => .ok (.bl true) e1
    | .bl false => ev T b e1
    | _ => .stuck
  | .not a, e => (ev T a e).bind fun d e1 => match d with
    | .bl k => .ok (.bl (!k)) e1
    | _ => .stuck
  | .call f as, e => (eva T as e).bind fun avs e1 => (callF T f avs e1).bind fun r e2 => .ok r.d e2
  | .dcall g as, e => (ev T g e).bind fun d e1 => match d with
    | .fn f => if !decide (f < T.nf) then .stuck else (eva T as e1).bind fun avs e2 => (callF T f avs e2).bind fun r e3 => .ok r.d e3
    | _ => .stuck
  | .comp own tg it t elt, e => (evi T it e).bind fun items e1 => if !(ownOk e1 own && decide (items.length ≤ 16777216)) then .stuck else
    (evComp (cBody tg.put own (fun e => ev T t e) (fun e => ev T elt e)) items [] e1).nox.bind fun ds e2 => .ok (.lst ds) (backS e1 e2 own)
def evs (T : Tab) : IEs → Sls → Out (List D)
  | .nil, e => .ok [] e
  | .cons a r, e => (ev T a e).bind fun d e1 => (evs T r e1).bind fun ds e2 => .ok (d :: ds) e2
def eva (T : Tab) : IAs → Sls → Out (List AV)
  | .nil, e => .ok [] e
  | .e a r, e => (ev T a e).bind fun d e1 => (eva T r e1).bind fun ds e2 => .ok (.d d :: ds) e2
  | .s i r, e => if !bnd e i then .stuck else (eva T r e).bind fun ds e2 => .ok (.s i :: ds) e2
def evi (T : Tab) : II → Sls → Out (List D)
  | .mk f as, e => (evs T as e).bind fun ds e1 => .opt (f ds) e1
end
def evr (T : Tab) : IR → Sls → Out RV
  | .val a, e => (ev T a e).bind fun d e1 => .ok (.v d) e1
  | .fr f as, e => (evs T as e).bind fun ds e1 => .opt ((f ds).map .fr) e1
  | .call f as, e => (eva T as e).bind fun avs e1 => callF T f avs e1
  | .comp own tg it t elt, e => (ev T (.comp own tg it t elt) e).bind fun d e1 => match d with
    | .lst ds => .ok (.fr (.lst ds)) e1
    | _ => .stuck
  | .mv i, e => match e[i]? with
    | some (.mt false c) => .ok (.fr c) (e.set i .un)
    | some (.val d) => .ok (.v d) e
    | _ => .stuck
def SO.opt : Option Sls → SO
  | some e => .nx e
  | none => .stuck
/-- nothing is let out -/
def SO.nox : SO → SO
  | .exc _ _ => .stuck
  | o => o
/-- these slots are forgotten -/
def SO.wp (l : List Nat) : SO → SO
  | .nx e => .nx (wipeS e l)
  | .ret r e => .ret r (wipeS e l)
  | .brk e => .brk (wipeS e l)
  | .cnt e => .cnt (wipeS e l)
  | .exc x e => .exc x (wipeS e l)
  | .stuck => .stuck
def SO.tr (o : SO) (k : Exn → Sls → SO) : SO := match o with
  | .exc x e1 => k x e1
  | o => o
def exS (T : Tab) : IS → Sls → SO
  | .nop, e => .nx e
  | .seq a b, e => (exS T a e).seq fun e1 => exS T b e1
  | .put tg a, e => (ev T a e).so fun d e1 => .opt (tg.put d e1)
  | .setm i r, e => (evr T r e).so fun r e1 => .opt (stR i r e1)
  | .par i j a b, e => (evr T a e).so fun r e1 => (evr T b e1).so fun r' e2 => .opt ((stR i r e2).bind (stR j r'))
  | .ex a, e => (ev T a e).so fun _ e1 => .nx e1
  | .aug i f a, e => match e[i]? with
    | some (.val d) => (ev T a e).so fun d2 e1 => .opt ((f [d, d2]).bind fun d3 => putN i d3 e1)
    | _ => .stuck
  | .ret r, e => (evr T r e).so fun r e1 => .ret r e1
  | .ife t a b, e => (ev T t e).so fun d e1 => .ifb d (exS T a e1) (exS T b e1)
  | .for tg it b, e => (evi T it e).so fun items e1 => evFor tg.put (fun e => exS T b e) items e1
  | .while t b, e => evWh (fun e => ev T t e) (fun e => exS T b e) T.fuel e
  | .brk, e => .brk e
  | .cnt, e => .cnt e
  | .raise k f as, e => (evs T as e).so fun ds e1 => match f ds with
    | some o => .exc ⟨k, o⟩ e1
    | none => .stuck
  | .try b k i h, e => (exS T b e).tr fun x e1 => if T.sub x.cls k then ((exS T (h x.arg) (wipeS e1 i)).nox).wp i else .exc x e1
/-- the parameters' things, as they are in the end -/
def backA : Sls → Sls → Option Sls
  | [], _ => some []
  | .mt _ c0 :: ar, .mt true c :: e => if c.isL = c0.isL then (backA ar e).map fun r => .mt true c :: r else none
  | .mt _ _ :: _, _ => none
  | s :: ar, _ :: e => (backA ar e).map fun r => s :: r
  | _ :: _, [] => none
def runB (T : Tab) (np n : Nat) (body : IS) (ar : Sls) : FOut :=
  if ar.length ≠ np then .stuck else match exS T body (ar ++ List.replicate (n - ar.length) .un) with
  | .ret r e => (match backA ar e with
    | some ar' => .ok r ar'
    | none => .stuck)
  | .nx e => (match backA ar e with
    | some ar' => .ok (.v .non) ar'
    | none => .stuck)
  | .exc x e => (match backA ar e with
    | some ar' => .exc x ar'
    | none => .stuck)
  | _ => .stuck
end Eng

set_option Elab.async false
set_option linter.all false
set_option maxRecDepth 100000
/-! Readings by the evaluator, and the rules for expressions. -/
namespace Eng
open PySem PySem.Spec L2

/-- the text's facts: data's context, the evaluator's table, the exceptions' classes, their field's names -/
structure Ct where
  K : Kx
  T : Tab
  ca : Nat → Addr
  an : Nat → Str
/-- an exception of class cls, with its own dict d, is x -/
def Ct.ex (C : Ct) (H : Hp) (cls : Value) (d : Option Addr) (x : Exn) : Prop :=
  cls = .ref (C.ca x.cls) ∧ match x.arg with
    | none => True
    | some dv => ∃ dd v, d = some dd ∧ H dd = some (.xd [(C.an x.cls, v)]) ∧ Fd C.K H v dv

theorem Out.ok_bind {α β : Type} (a : α) (e : Sls) (k : α → Sls → Out β) : (Out.ok a e).bind k = k a e := rfl
theorem Out.bind_assoc {α β γ : Type} (o : Out α) (k : α → Sls → Out β) (l : β → Sls → Out γ) : (o.bind k).bind l = o.bind fun a e => (k a e).bind l := by cases o <;> rfl
/-- what is to hold behind an expression -/
def fin {α : Type} (C : Ct) (W : WX) (σ : Sg) (e : Sls) (H : Hp) (R : α → Sls → Hp → Prop) : Out α → Prop
  | .ok a e' => ∀ H', Ge C.K σ e H e' H' → R a e' H'
  | .exc x e' => ∀ cls d H', C.ex H' cls d x → Ge C.K σ e H e' H' → W cls d σ H'
  | .stuck => False
section
variable {C : Ct} {W : WX} {σ : Sg} {e e' : Sls} {H H' : Hp}
theorem fin.mono {α : Type} {R R' : α → Sls → Hp → Prop} {o : Out α} (h : fin C W σ e H R o) (k : ∀ a e' H', Ge C.K σ e H e' H' → R a e' H' → R' a e' H') : fin C W σ e H R' o := by
  cases o with
  | ok a e' => exact fun H' g => k _ _ _ g (h H' g)
  | exc x e' => exact h
  | stuck => exact h
/-- .. from a later state -/
theorem fin.back {α : Type} {R : α → Sls → Hp → Prop} {o : Out α} (g : Ge C.K σ e H e' H') (h : fin C W σ e H R o) : fin C W σ e' H' R o := by
  cases o with
  | ok a e' => exact fun H2 g2 => h H2 (g.trans g2)
  | exc x e' => exact fun cls d H2 q g2 => h cls d H2 q (g.trans g2)
  | stuck => exact h
/-- a bind, from the left -/
theorem fin.bind {α β : Type} {R : β → Sls → Hp → Prop} {o : Out α} {k : α → Sls → Out β} (h : fin C W σ e H R (o.bind k)) :
    fin C W σ e H (fun a e' H' => fin C W σ e H R (k a e')) o := by
  cases o with
  | ok a e' => exact fun H' g => h
  | exc x e' => exact h
  | stuck => exact h
theorem fin.bind' {α β : Type} {R : β → Sls → Hp → Prop} {o : Out α} {k : α → Sls → Out β} (h : fin C W σ e H R (o.bind k)) :
    fin C W σ e H (fun a e' H' => fin C W σ e' H' R (k a e')) o := (fin.bind h).mono fun _ _ _ g q => q.back g
theorem fin.opt {α : Type} {R : α → Sls → Hp → Prop} {o : Option α} (E : EnvOk C.K H σ e) (h : fin C W σ e H R (.opt o e)) : ∃ a, o = some a ∧ ∀ H', L2.Same H H' → R a e H' := by
  cases o with
  | none => exact h.elim
  | some a => exact ⟨a, rfl, fun H' s => h H' (Ge.same E s)⟩
theorem fin.okE {α : Type} {R : α → Sls → Hp → Prop} {a : α} (E : EnvOk C.K H σ e) (h : fin C W σ e H R (.ok a e)) : R a e H := h H (Ge.refl E)
end

/-- the reading of an expression, an argument list, a test -/
def rdE (C : Ct) (W : WX) (ie : IE) : TE := fun σ H Q => ∃ e, EnvOk C.K H σ e ∧ fin C W σ e H (fun d e' H' => ∀ v, Fd C.K H' v d → Q v H') (ev C.T ie e)
def rdB (C : Ct) (W : WX) (ie : IE) : TT := fun σ H Q => ∃ e, EnvOk C.K H σ e ∧ fin C W σ e H (fun d e' H' => ∃ k, d = .bl k ∧ Q k H') (ev C.T ie e)
def rdEs (C : Ct) (W : WX) (ies : IEs) : TA := fun σ H Q => ∃ e, EnvOk C.K H σ e ∧ fin C W σ e H (fun ds e' H' => ∀ vs, Fds C.K H' vs ds → Q vs H') (evs C.T ies e)
def SE (X : Cx) (C : Ct) (W : WX) (e : Expr) (ie : IE) : Prop := PE X e (rdE C W ie)
def SB (X : Cx) (C : Ct) (W : WX) (e : Expr) (ie : IE) : Prop := PT X e (rdB C W ie)
def SEs (X : Cx) (C : Ct) (W : WX) (es : List Expr) (ies : IEs) : Prop := PA X es (rdEs C W ies)

theorem peImp {X : Cx} {e : Expr} {t t' : TE} (h : PE X e t) (k : ∀ σ H Q, t' σ H Q → t σ H Q) : PE X e t' := ⟨fun pins s σ H Q I q => h.run pins s σ H Q I (k σ H Q q)⟩
theorem ptImp {X : Cx} {e : Expr} {t t' : TT} (h : PT X e t) (k : ∀ σ H Q, t' σ H Q → t σ H Q) : PT X e t' := ⟨fun pins s σ H Q I q => h.run pins s σ H Q I (k σ H Q q)⟩
theorem pwImp {X : Cx} {e : Expr} {t t' : TT} (h : PW X e t) (k : ∀ σ H Q, t' σ H Q → t σ H Q) : PW X e t' := ⟨fun wh pins s σ H Q I q => h.run wh pins s σ H Q I (k σ H Q q)⟩
theorem paImp {X : Cx} {e : List Expr} {t t' : TA} (h : PA X e t) (k : ∀ σ H Q, t' σ H Q → t σ H Q) : PA X e t' := ⟨fun pos pins s σ H Q I q => h.run pos pins s σ H Q I (k σ H Q q)⟩
theorem psImp {X : Cx} {e : Stmt} {t t' : TS} (h : PS X e t) (k : ∀ D σ H, t' D σ H → t D σ H) : PS X e t' := ⟨fun pins s σ H D I q => h.run pins s σ H D I (k D σ H q)⟩
theorem pssImp {X : Cx} {e : List Stmt} {t t' : TS} (h : PSs X e t) (k : ∀ D σ H, t' D σ H → t D σ H) : PSs X e t' := ⟨fun pins s σ H D I q => h.run pins s σ H D I (k D σ H q)⟩

/-! ### a new thing is locked for good -/
/-- what is wanted, or: of the same thing locked -/
def Fz (Q : VK) : VK := fun v H => Q v H ∨ ∃ a u, v = .ref a ∧ H a = some u ∧ Mut (some u) ∧ ∀ o, Q v (upd H a (.frz o u))
theorem EP.frz {X : Cx} {pins : List (Addr × Obj)} {σ : Sg} {Q : VK} {u : Value} {s : Shared} (h : EP X pins σ (Fz Q) u s) : EP X pins σ Q u s := by
  obtain ⟨v, H, I, r, q | ⟨a, o, e1, e2, m, q⟩⟩ := h
  · exact ⟨v, H, I, r, q⟩
  · obtain ⟨od, I2⟩ := I.lock e2 m
    exact ⟨v, _, I2, r, q od⟩
theorem peFrz {X : Cx} {e : Expr} {t : TE} (h : PE X e t) : PE X e (fun σ H Q => t σ H (Fz Q)) := ⟨fun pins s σ H Q I q => thn (h.run pins s σ H _ I q) fun _ _ z => EP.frz z⟩
theorem OpR.frz {X : Cx} {f : Value → Value → Sem Value} {r : R2} (h : OpR X f r) : OpR X f (fun x y H Q => r x y H (Fz Q)) := fun pins s σ H x y v u Q I rx ry q => thn (h pins s σ H x y v u _ I rx ry q) fun _ _ z => EP.frz z
theorem CallR.frz {X : Cx} {f : Value} {r : List V → Hp → VK → Prop} (h : CallR X f r) : CallR X f (fun xs H Q => r xs H (Fz Q)) := fun pins s σ H xs us Q I rx q => thn (h pins s σ H xs us _ I rx q) fun _ _ z => EP.frz z

section
variable {X : Cx} {C : Ct} {W : WX}

/-! ### constants and names -/
theorem se_c {x : Expr} {v : V} {d : D} (h : PE X x (tC v)) (r : ∀ H, Fd C.K H v d) : SE X C W x (.c d) := peImp h fun σ H Q ⟨e, E, q⟩ => by
  have q' := fin.okE E q
  exact q' v (r H)
theorem se_int {i j pos} : SE X C W (.Constant (.int i) j pos) (.c (.int i)) := se_c pe_int fun _ => .int i
theorem se_bl {b j pos} : SE X C W (.Constant (.bool b) j pos) (.c (.bl b)) := se_c pe_bl fun _ => .bl b
theorem se_non {j pos} : SE X C W (.Constant .none j pos) (.c .non) := se_c pe_non fun _ => .non
theorem se_str {x j pos} : SE X C W (.Constant (.str x) j pos) (.c (.str x)) := se_c pe_str fun _ => .str x

theorem D.mc_d (c : MC) : D.mc c.d = some c := by cases c <;> rfl
/-- a name's value; what it holds is locked -/
theorem se_v (i : Nat) {x : Str} {pos : Pos} (hN : X.N[i]? = some x := by rfl) (hv : Vis X.env.scope x := by first | exact Or.inl rfl | exact Or.inr (Or.inl rfl) | exact Or.inr (Or.inr rfl)) (hd : (x == ("__debug__" : Str)) = false := by decide)
    (hcd : (x == ("__classdict__" : Str)) = false := by decide) : SE X C W (.Name x pos) (.v i) := peImp (peFrz (pe_var (i := i) hN hv hd hcd)) fun σ H Q ⟨e, E, q⟩ => by
  unfold ev rdV at q
  cases he : e[i]? with
  | none => rw [he] at q; exact q.elim
  | some s =>
    rw [he] at q
    cases s with
    | un => exact q.elim
    | val d =>
      obtain ⟨v, h1, h2⟩ := E.val i d he
      exact ⟨v, h1, .inl (fin.okE E q v h2)⟩
    | mt p c =>
      cases p with
      | true => exact q.elim
      | false =>
        obtain ⟨a, o, h1, h2, h3⟩ := E.mt i false c he
        refine ⟨_, h1, .inr ⟨a, o, rfl, h2, h3.mut, fun ob => ?_⟩⟩
        obtain ⟨g, f⟩ := Ge.freeze (ob := ob) E he h1 h2 h3
        exact q _ g _ f

/-! ### operators, by values -/
def rOp (C : Ct) (f : List D → Option D) : R2 := fun x y H Q => ∃ d1 d2 d, Fd C.K H x d1 ∧ Fd C.K H y d2 ∧ f [d1, d2] = some d ∧ ∀ v H', Same H H' → Fd C.K H' v d → Q v H'
def rUn (C : Ct) (f : List D → Option D) : V → Hp → VK → Prop := fun x H Q => ∃ d1 d, Fd C.K H x d1 ∧ f [d1] = some d ∧ ∀ v H', Same H H' → Fd C.K H' v d → Q v H'
def rCl (C : Ct) (f : List D → Option D) : List V → Hp → VK → Prop := fun xs H Q => ∃ ds d, Fds C.K H xs ds ∧ f ds = some d ∧ ∀ v H', Same H H' → Fd C.K H' v d → Q v H'
variable {a b c : Expr} {ia ib ic : IE} {pos : Pos}

/-- two expressions, then f -/
theorem two {f : List D → Option D} {σ : Sg} {H : Hp} {Q : VK} (h : rdE C W (.prim f (.cons ia (.cons ib .nil))) σ H Q) : rdE C W ia σ H fun x H1 => rdE C W ib σ H1 fun y H2 => rOp C f x y H2 Q := by
  obtain ⟨e, E, q⟩ := h
  simp only [ev, evs, Out.bind_assoc, Out.ok_bind] at q
  refine ⟨e, E, q.bind'.mono fun d1 e1 H1 g1 q1 v1 r1 => ⟨e1, g1.env, q1.bind'.mono fun d2 e2 H2 g2 q2 v2 r2 => ?_⟩⟩
  obtain ⟨d, hd, q3⟩ := fin.opt g2.env q2
  exact ⟨d1, d2, d, r1.kt (g2.kt g1.env), r2, hd, fun v H' s r => q3 H' s v r⟩
theorem one {f : List D → Option D} {σ : Sg} {H : Hp} {Q : VK} (h : rdE C W (.prim f (.cons ia .nil)) σ H Q) : rdE C W ia σ H fun x H1 => rUn C f x H1 Q := by
  obtain ⟨e, E, q⟩ := h
  simp only [ev, evs, Out.bind_assoc, Out.ok_bind] at q
  refine ⟨e, E, q.bind'.mono fun d1 e1 H1 g1 q1 v1 r1 => ?_⟩
  obtain ⟨d, hd, q3⟩ := fin.opt g1.env q1
  exact ⟨d1, d, r1, hd, fun v H' s r => q3 H' s v r⟩
theorem many {f : List D → Option D} {ies : IEs} {σ : Sg} {H : Hp} {Q : VK} (h : rdE C W (.prim f ies) σ H Q) : rdEs C W ies σ H fun xs H1 => rCl C f xs H1 Q := by
  obtain ⟨e, E, q⟩ := h
  simp only [ev] at q
  refine ⟨e, E, q.bind'.mono fun ds e1 H1 g1 q1 vs r => ?_⟩
  obtain ⟨d, hd, q3⟩ := fin.opt g1.env q1
  exact ⟨ds, d, r, hd, fun v H' s r => q3 H' s v r⟩

theorem se_bin {op : Operator} {f : List D → Option D} (ho : OpR X (binaryOp op) (rOp C f)) (ha : SE X C W a ia) (hb : SE X C W b ib) : SE X C W (.BinOp a op b pos) (.prim f (.cons ia (.cons ib .nil))) :=
  peImp (pe_op ho ha hb) fun _ _ _ h => two h
theorem se_cmp {op : CmpOp} {f : List D → Option D} (ho : OpR X (compareOp op) (rOp C f)) (ha : SE X C W a ia) (hb : SE X C W b ib) (hm : behindInMarks op b = false := by rfl) : SE X C W (.Compare a [op] [b] pos) (.prim f (.cons ia (.cons ib .nil))) :=
  peImp (pe_cmpR ho ha hb hm) fun _ _ _ h => two h
theorem se_un {op : UnaryOp} {f : List D → Option D} (ho : UnR X (unaryOp op) (rUn C f)) (ha : SE X C W a ia) : SE X C W (.UnaryOp op a pos) (.prim f (.cons ia .nil)) :=
  peImp (pe_un ho ha) fun _ _ _ h => one h
/-- a test by its value -/
theorem sb_of {e : Expr} {ie : IE} (h : SE X C W e ie) (he : ∀ whole, isTrue e X.env whole = (do let v ← whole; standAt e.pos; holding [v] (truthy v)) := by intro _; rfl) : SB X C W e ie := ptImp (pt_val h he) fun σ H Q ⟨e, E, q⟩ => by
  refine ⟨e, E, q.mono fun d e1 H1 g ⟨k, ek, qk⟩ v r => ?_⟩
  subst ek
  cases r
  exact ⟨k, rfl, qk⟩
theorem sb_cmp {op : CmpOp} {f : List D → Option D} (ho : OpR X (compareOp op) (rOp C f)) (ha : SE X C W a ia) (hb : SE X C W b ib) (hm : behindInMarks op b = false := by rfl) : SB X C W (.Compare a [op] [b] pos) (.prim f (.cons ia (.cons ib .nil))) :=
  ptImp (pt_cmpR ho ha hb hm) fun σ H Q ⟨e, E, q⟩ => two (Q := fun v H' => ∃ k, v = .bl k ∧ Q k H') ⟨e, E, q.mono fun d e1 H1 g ⟨k, ek, qk⟩ v r => by
    subst ek
    cases r
    exact ⟨k, rfl, qk⟩⟩

/-! ### argument lists -/
theorem ses_nil : SEs X C W [] .nil := paImp pa_nil fun σ H Q ⟨e, E, q⟩ => by
  simp only [evs] at q
  have q' := fin.okE E q
  exact q' [] .nil
theorem ses_cons {e : Expr} {es : List Expr} {ie : IE} {ies : IEs} (ha : SE X C W e ie) (hr : SEs X C W es ies) (hs : starEach (e :: es) X.env = (false, eval e X.env) :: starEach es X.env := by rfl) : SEs X C W (e :: es) (.cons ie ies) :=
  paImp (pa_cons ha hr hs) fun σ H Q ⟨e, E, q⟩ => by
    simp only [evs, Out.bind_assoc, Out.ok_bind] at q
    refine ⟨e, E, q.bind'.mono fun d1 e1 H1 g1 q1 v1 r1 => ⟨e1, g1.env, q1.bind'.mono fun ds e2 H2 g2 q2 vs rs => ?_⟩⟩
    exact fin.okE g2.env q2 _ (.cons (r1.kt (g2.kt g1.env)) rs)

/-! ### displays -/
theorem sz_ge {n : Nat} (h : n ≤ 16777216) : n ≤ sizeLine := by rw [sizeLine_eq]; exact h
theorem upd_sameH {H : Hp} {p : Addr} {o : HO} (h : H p = none) : L2.Same H (upd H p o) := fun b u e => by rw [upd_ne (ne_of_none e h)]; exact e
def pTup (ds : List D) : Option D := if ds.length ≤ 16777216 then some (.tup ds) else none
def pLst (ds : List D) : Option D := if ds.length ≤ 16777216 then some (.lst ds) else none
theorem se_tup {es : List Expr} {ies : IEs} {k : Nat} (h : SEs X C W es ies) : SE X C W (.Tuple es k pos) (.prim pTup ies) := peImp (pe_tup h) fun σ H Q hq => by
  obtain ⟨e, E, q⟩ := many hq
  refine ⟨e, E, q.mono fun ds e1 H1 g q1 vs r => ?_⟩
  obtain ⟨ds', d, r', hf, k⟩ := q1 vs r
  unfold pTup at hf
  split at hf
  · cases hf
    rename_i hl
    rw [← r'.length] at hl
    exact ⟨sz_ge hl, fun p hp => k _ _ (upd_sameH hp) (.tup (.inl (.inl upd_same)) (r'.kt (KT.same (upd_sameH hp))))⟩
  · cases hf
theorem se_lst {es : List Expr} {ies : IEs} (h : SEs X C W es ies) : SE X C W (.List es pos) (.prim pLst ies) := peImp (peFrz (pe_lst h)) fun σ H Q hq => by
  obtain ⟨e, E, q⟩ := many hq
  refine ⟨e, E, q.mono fun ds e1 H1 g q1 vs r => ?_⟩
  obtain ⟨ds', d, r', hf, k⟩ := q1 vs r
  unfold pLst at hf
  split at hf
  · cases hf
    rename_i hl
    rw [← r'.length] at hl
    refine ⟨sz_ge hl, fun p hp => .inr ⟨p, _, rfl, upd_same, trivial, fun o => ?_⟩⟩
    rw [upd_upd]
    exact k _ _ (upd_sameH hp) (.lst (.inl ⟨o, upd_same⟩) (r'.kt (KT.same (upd_sameH hp))))
  · cases hf
end
end Eng

set_option Elab.async false
set_option linter.all false
set_option maxRecDepth 100000
/-! Rules for choices, tests, targets, things walked, slots, comprehensions. -/
namespace Eng
open PySem PySem.Spec L2
section
variable {X : Cx} {C : Ct} {W : WX} {a b c : Expr} {ia ib ic : IE} {pos : Pos}

/-! ### choices -/
theorem bl_of {α : Type} {σ : Sg} {e : Sls} {H : Hp} {R : α → Sls → Hp → Prop} {d : D} {x y : Out α} (h : fin C W σ e H R (match d with | .bl true => x | .bl false => y | _ => .stuck)) : ∃ k, d = .bl k ∧ fin C W σ e H R (if k = true then x else y) := by
  cases d with
  | bl k => cases k <;> exact ⟨_, rfl, by simpa using h⟩
  | _ => exact h.elim
theorem se_ite {t : Expr} {it : IE} (ht : SB X C W t it) (ha : SE X C W a ia) (hb : SE X C W b ib) : SE X C W (.IfExp t a b pos) (.ite it ia ib) := peImp (pe_ifExp ht ha hb) fun σ H Q ⟨e, E, q⟩ => by
  simp only [ev] at q
  refine ⟨e, E, q.bind'.mono fun d e1 H1 g q1 => ?_⟩
  obtain ⟨k, rfl, q2⟩ := bl_of q1
  refine ⟨k, rfl, ?_⟩
  cases k <;> exact ⟨e1, g.env, by simpa using q2⟩
theorem sb_and (ha : SB X C W a ia) {rest : List Expr} (hb : PW X (.BoolOp .And (b :: rest) pos) (rdB C W ib)) : PW X (.BoolOp .And (a :: b :: rest) pos) (rdB C W (.and ia ib)) := pwImp (pw_and ha hb) fun σ H Q ⟨e, E, q⟩ => by
  simp only [ev] at q
  refine ⟨e, E, q.bind'.mono fun d e1 H1 g q1 => ?_⟩
  obtain ⟨k, rfl, q2⟩ := bl_of q1
  refine ⟨k, rfl, ?_⟩
  cases k with
  | true => exact ⟨e1, g.env, by simpa using q2⟩
  | false =>
    simp only [Bool.false_eq_true, if_false] at q2 ⊢
    obtain ⟨k, ek, qk⟩ := fin.okE g.env q2
    cases ek
    exact qk
theorem sb_or (ha : SB X C W a ia) {rest : List Expr} (hb : PW X (.BoolOp .Or (b :: rest) pos) (rdB C W ib)) : PW X (.BoolOp .Or (a :: b :: rest) pos) (rdB C W (.or ia ib)) := pwImp (pw_or ha hb) fun σ H Q ⟨e, E, q⟩ => by
  simp only [ev] at q
  refine ⟨e, E, q.bind'.mono fun d e1 H1 g q1 => ?_⟩
  obtain ⟨k, rfl, q2⟩ := bl_of q1
  refine ⟨k, rfl, ?_⟩
  cases k with
  | false => exact ⟨e1, g.env, by simpa using q2⟩
  | true =>
    simp only [if_true] at q2 ⊢
    obtain ⟨k, ek, qk⟩ := fin.okE g.env q2
    cases ek
    exact qk
theorem sb_and1 (ha : SB X C W a ia) : PW X (.BoolOp .And [a] pos) (rdB C W ia) := pw_and1 ha
theorem sb_or1 (ha : SB X C W a ia) : PW X (.BoolOp .Or [a] pos) (rdB C W ia) := pw_or1 ha
theorem sb_pw {x : Expr} {ix : IE} (h : PW X x (rdB C W ix)) : SB X C W x ix := h.pt
theorem sb_not (ha : SB X C W a ia) : SB X C W (.UnaryOp .Not a pos) (.not ia) := ptImp (pt_not ha) fun σ H Q ⟨e, E, q⟩ => by
  simp only [ev] at q
  refine ⟨e, E, q.bind'.mono fun d e1 H1 g q1 => ?_⟩
  cases d with
  | bl k =>
    obtain ⟨k', ek, qk⟩ := fin.okE g.env q1
    cases ek
    exact ⟨k, rfl, qk⟩
  | _ => exact q1.elim
theorem se_and (ha : SE X C W a ia) {rest : List Expr} (hb : SE X C W (.BoolOp .And (b :: rest) pos) ib) : SE X C W (.BoolOp .And (a :: b :: rest) pos) (.and ia ib) := peImp (pe_and ha hb) fun σ H Q ⟨e, E, q⟩ => by
  simp only [ev] at q
  refine ⟨e, E, q.bind'.mono fun d e1 H1 g q1 v r => ?_⟩
  obtain ⟨k, rfl, q2⟩ := bl_of q1
  cases r
  refine ⟨k, rfl, ?_⟩
  cases k with
  | true => exact ⟨e1, g.env, by simpa using q2⟩
  | false =>
    simp only [Bool.false_eq_true, if_false] at q2 ⊢
    have q3 := fin.okE g.env q2
    exact q3 _ (.bl false)
theorem se_or (ha : SE X C W a ia) {rest : List Expr} (hb : SE X C W (.BoolOp .Or (b :: rest) pos) ib) : SE X C W (.BoolOp .Or (a :: b :: rest) pos) (.or ia ib) := peImp (pe_or ha hb) fun σ H Q ⟨e, E, q⟩ => by
  simp only [ev] at q
  refine ⟨e, E, q.bind'.mono fun d e1 H1 g q1 v r => ?_⟩
  obtain ⟨k, rfl, q2⟩ := bl_of q1
  cases r
  refine ⟨k, rfl, ?_⟩
  cases k with
  | false => exact ⟨e1, g.env, by simpa using q2⟩
  | true =>
    simp only [if_true] at q2 ⊢
    have q3 := fin.okE g.env q2
    exact q3 _ (.bl true)
theorem se_and1 (ha : SE X C W a ia) : SE X C W (.BoolOp .And [a] pos) ia := pe_one ha
theorem se_or1 (ha : SE X C W a ia) : SE X C W (.BoolOp .Or [a] pos) ia := pe_one ha
theorem se_not (ha : SE X C W a ia) : SE X C W (.UnaryOp .Not a pos) (.not ia) := peImp (pe_not ha) fun σ H Q ⟨e, E, q⟩ => by
  simp only [ev] at q
  refine ⟨e, E, q.bind'.mono fun d e1 H1 g q1 v r => ?_⟩
  cases d with
  | bl k =>
    cases r
    have q3 := fin.okE g.env q1
    exact ⟨k, rfl, q3 _ (.bl _)⟩
  | _ => exact q1.elim
theorem se_chain {op op' : CmpOp} {f f' : List D → Option D} (ho : OpR X (compareOp op) (rOp C f)) (ho' : OpR X (compareOp op') (rOp C f')) (ha : SE X C W a ia) (hb : SE X C W b ib) (hc : SE X C W c ic)
    (hm : lastMarks [op, op'] [b, c] = false := by with_unfolding_all rfl) : SE X C W (.Compare a [op, op'] [b, c] pos) (.chain f f' ia ib ic) := peImp (pe_chain ho ho' ha hb hc hm) fun σ H Q ⟨e, E, q⟩ => by
  simp only [ev] at q
  refine ⟨e, E, q.bind'.mono fun d1 e1 H1 g1 q1 v1 r1 => ⟨e1, g1.env, q1.bind'.mono fun d2 e2 H2 g2 q2 v2 r2 => ?_⟩⟩
  have r1' := r1.kt (g2.kt g1.env)
  cases hf : f [d1, d2] with
  | none => rw [hf] at q2; exact q2.elim
  | some d =>
    rw [hf] at q2
    obtain ⟨k, rfl, q3⟩ : ∃ k, d = .bl k ∧ fin C W σ e2 H2 _ (if k = true then _ else _) := by
      cases d with
      | bl k => cases k <;> exact ⟨_, rfl, by simpa using q2⟩
      | _ => exact q2.elim
    refine ⟨d1, d2, _, r1', r2, hf, fun v H' s r => ?_⟩
    cases r
    refine ⟨k, rfl, ?_⟩
    have E2 := g2.env.same s
    cases k with
    | true =>
      simp only [if_true] at q3 ⊢
      refine ⟨e2, E2, (q3.back (Ge.same g2.env s)).bind'.mono fun d3 e3 H3 g3 q4 v3 r3 => ?_⟩
      obtain ⟨d', hf', q5⟩ := fin.opt g3.env q4
      exact ⟨d2, d3, d', (r2.kt (KT.same s)).kt (g3.kt E2), r3, hf', fun v H4 s4 r4 => q5 H4 s4 v r4⟩
    | false =>
      simp only [Bool.false_eq_true, if_false] at q3 ⊢
      have q4 := fin.okE E2 (q3.back (Ge.same g2.env s))
      exact q4 _ (.bl false)

/-! ### slots that may be written -/
/-- what slot i holds at an address -/
def rSl (C : Ct) (f : MC → List D → Option D) : V → List V → Hp → VK → Prop := fun x ys H Q => ∃ c ds d, ((∃ a o, x = .ref a ∧ H a = some o ∧ McOk C.K H o c) ∨ Fd C.K H x c.d) ∧ Fds C.K H ys ds ∧ f c ds = some d ∧ ∀ v H', Same H H' → Fd C.K H' v d → Q v H'
theorem bnd_at {σ : Sg} {H : Hp} {e : Sls} (E : EnvOk C.K H σ e) {i : Nat} (h : bnd e i = true) : ∃ x, σ[i]? = some (some x) := by
  unfold bnd at h
  cases he : e[i]? with
  | none => rw [he] at h; cases h
  | some s =>
    rw [he] at h
    cases s with
    | un => cases h
    | val d => obtain ⟨v, h1, _⟩ := E.val i d he; exact ⟨v, h1⟩
    | mt p c => obtain ⟨a, o, h1, _⟩ := E.mt i p c he; exact ⟨_, h1⟩
theorem bndM_at {σ : Sg} {H : Hp} {e : Sls} (E : EnvOk C.K H σ e) {i : Nat} {k : Bool} (h : bndM e i k = true) : ∃ a o p c, σ[i]? = some (some (.ref a)) ∧ H a = some o ∧ McOk C.K H o c ∧ e[i]? = some (.mt p c) ∧ c.isL = k := by
  unfold bndM at h
  cases he : e[i]? with
  | none => rw [he] at h; cases h
  | some s =>
    rw [he] at h
    cases s with
    | un => cases h
    | val d => cases h
    | mt p c => obtain ⟨a, o, h1, h2, h3⟩ := E.mt i p c he; exact ⟨a, o, p, c, h1, h2, h3, rfl, by simpa using h⟩
theorem stuckN {α : Type} {σ : Sg} {e : Sls} {H : Hp} {R : α → Sls → Hp → Prop} {k : Bool} {o : Out α} (h : fin C W σ e H R (if (!k) = true then .stuck else o)) : k = true ∧ fin C W σ e H R o := by
  cases k with
  | false => exact False.elim (show fin C W σ e H R .stuck from by simpa using h)
  | true => exact ⟨rfl, by simpa using h⟩
theorem slotV {σ : Sg} {H' : Hp} {e' : Sls} (E : EnvOk C.K H' σ e') {i : Nat} {c : MC} (h : rdM e' i = some c) : ∃ x, σ[i]? = some (some x) ∧ ((∃ a o, x = .ref a ∧ H' a = some o ∧ McOk C.K H' o c) ∨ Fd C.K H' x c.d) := by
  unfold rdM at h
  cases he : e'[i]? with
  | none => rw [he] at h; cases h
  | some s =>
    rw [he] at h
    cases s with
    | un => cases h
    | val d =>
      obtain ⟨v, h1, h2⟩ := E.val i d he
      refine ⟨v, h1, .inr ?_⟩
      have e0 : c.d = d := by
        cases d <;> first
          | (cases h; rfl)
          | cases h
      rw [e0]
      exact h2
    | mt p c' =>
      cases h
      obtain ⟨a, o, h1, h2, h3⟩ := E.mt i p c he
      exact ⟨_, h1, .inl ⟨a, o, rfl, h2, h3⟩⟩
end
end Eng

set_option Elab.async false
set_option linter.all false
set_option maxRecDepth 100000
/-! Rules: slots that may be written, calls of defs, targets, things walked. -/
namespace Eng
open PySem PySem.Spec L2

/-! ### what the operations on a list or dict that may be written give -/
def fIx : MC → List D → Option D
  | .lst ds, [.int i] => atI ds i
  | _, _ => none
def fLen : MC → List D → Option D
  | .lst ds, [] => some (.int ds.length)
  | .dct ks _, [] => some (.int ks.length)
  | _, _ => none
def fApp : MC → List D → Option (MC × D)
  | .lst ds, [d] => if ds.length < 16777216 then some (.lst (ds ++ [d]), .non) else none
  | _, _ => none
def fPop : MC → List D → Option (MC × D)
  | .lst ds, [] => match ds[ds.length - 1]? with
    | some d => some (.lst ds.dropLast, d)
    | none => none
  | _, _ => none
/-- the value, then the place -/
def fSet : MC → List D → Option (MC × D)
  | .lst ds, [d, .int i] => match ixN ds.length i with
    | some j => some (.lst (ds.set j d), .non)
    | none => none
  | _, _ => none
theorem sz_eq : sizeLine = 16777216 := sizeLine_eq

section
variable {X : Cx} {C : Ct} {W : WX} {a b c : Expr} {ia ib ic : IE} {pos : Pos}

theorem Fd.getAt {K : Kx} {H : Hp} {xs : List V} {ds : List D} {i : Int} {d : D} (h : Fds K H xs ds) (e : atI ds i = some d) : ∃ v, atI xs i = some v ∧ Fd K H v d := by
  unfold atI at e ⊢
  rw [h.length]
  cases hn : ixN ds.length i with
  | none => rw [hn] at e; cases e
  | some j =>
    rw [hn] at e
    obtain ⟨v, h1, h2⟩ := h.get e
    exact ⟨v, h1, h2⟩

/-- slot i's thing at an address: read, with the arguments ys -/
def rSx (C : Ct) (f : MC → List D → Option D) : V → List V → Hp → VK → Prop := fun x ys H Q => ∃ c ds d, ((∃ a o, x = .ref a ∧ H a = some o ∧ McOk C.K H o c) ∨ Fd C.K H x c.d) ∧ Fds C.K H ys ds ∧ f c ds = some d ∧ ∀ v H', Same H H' → Fd C.K H' v d → Q v H'
theorem lstOf {K : Kx} {H : Hp} {x : V} {ds : List D} (h : (∃ a o, x = .ref a ∧ H a = some o ∧ McOk K H o (.lst ds)) ∨ Fd K H x (.lst ds)) : ∃ a xs, x = .ref a ∧ SqL K.k H a xs ∧ Fds K H xs ds := by
  rcases h with ⟨a, o, rfl, h1, h2⟩ | h
  · cases o <;> first
      | exact h2.elim
      | exact ⟨a, _, rfl, SqL.of h1, h2⟩
  · cases h with
    | lst h1 h2 => exact ⟨_, _, rfl, h1.seq, h2⟩
/-- x[e], x a slot's -/
theorem se_sx {f : MC → List D → Option D} (i : Nat) {x : Str} {p : Pos} (hr : IxR X (fun v u H Q => rSx C f v [u] H Q)) (hb : SE X C W b ib) (hs : PlainIx b := by intro _ _; rfl) (hN : X.N[i]? = some x := by rfl) (hv : Vis X.env.scope x := by first | exact Or.inl rfl | exact Or.inr (Or.inl rfl) | exact Or.inr (Or.inr rfl))
    (hd : (x == ("__debug__" : Str)) = false := by decide) (hcd : (x == ("__classdict__" : Str)) = false := by decide) : SE X C W (.Subscript (.Name x p) b pos) (.slot i f (.cons ib .nil)) := peImp (pe_ix hr (pe_var (i := i) hN hv hd hcd) hb hs) fun σ H Q ⟨e, E, q⟩ => by
  simp only [ev, evs, Out.bind_assoc, Out.ok_bind] at q
  obtain ⟨hb, q⟩ := stuckN q
  obtain ⟨x, hx⟩ := bnd_at E hb
  refine ⟨x, hx, e, E, q.bind'.mono fun d e1 H1 g q1 v r => ?_⟩
  obtain ⟨d', hf, q2⟩ := fin.opt g.env q1
  obtain ⟨c, hc, hf⟩ := Option.bind_eq_some_iff.mp hf
  obtain ⟨x', hx', hx2⟩ := slotV g.env hc
  rw [hx] at hx'
  cases hx'
  exact ⟨c, [d], d', hx2, .cons r .nil, hf, fun v H' s r => q2 H' s v r⟩
theorem ix_sx (kk : C.K.k = X.K) : IxR X (fun v u H Q => rSx C fIx v [u] H Q) := by
  intro value slice pins s σ H x y v u Q I rx ry ⟨c, ds, d, h1, h2, hf, q⟩ hs
  refine ix_list value slice pins s σ H x y v u Q I rx ry ?_ hs
  cases c with
  | dct ks vs => cases ds <;> cases hf
  | lst xs =>
    obtain ⟨a, ys, rfl, h3, h4⟩ := lstOf h1
    cases h2 with
    | cons r rn =>
      cases rn
      cases r <;> first
        | cases hf
        | (obtain ⟨w, e1, e2⟩ := Fd.getAt h4 hf
           exact ⟨a, ys, _, w, rfl, rfl, kk ▸ h3, e1, q w H (Same.refl H) e2⟩)
/-- len(x), x a slot's -/
theorem se_slen (i : Nat) {x : Str} {p p2 : Pos} (kk : C.K.k = X.K) (hg : Gl X "len") (hm : X.mg "len" = none) (hN : X.N[i]? = some x := by rfl) (hv : Vis X.env.scope x := by first | exact Or.inl rfl | exact Or.inr (Or.inl rfl) | exact Or.inr (Or.inr rfl))
    (hd : (x == ("__debug__" : Str)) = false := by decide) (hcd : (x == ("__classdict__" : Str)) = false := by decide) (hs : starEach [.Name x p] X.env = (false, eval (.Name x p) X.env) :: starEach [] X.env := by rfl) (hpl : (backTo pos (starEach [] X.env)).any (·.1) = false := by rfl) :
    SE X C W (.Call (.Name "len" p2) [.Name x p] [] pos) (.slot i (fun c ds => match c with | .lst _ => fLen c ds | _ => none) .nil) := peImp (pe_callB call_len_seq hg hm PySem.boot_len (pa_cons (pe_var (i := i) hN hv hd hcd) pa_nil hs) (by decide) (by decide) hs hpl) fun σ H Q ⟨e, E, q⟩ => by
  simp only [ev, evs, Out.ok_bind] at q
  obtain ⟨hb, q⟩ := stuckN q
  obtain ⟨x, hx⟩ := bnd_at E hb
  refine ⟨x, hx, ?_⟩
  obtain ⟨d', hf, q2⟩ := fin.opt E q
  obtain ⟨c, hc, hf⟩ := Option.bind_eq_some_iff.mp hf
  obtain ⟨x', hx', hx2⟩ := slotV E hc
  rw [hx] at hx'
  cases hx'
  cases c with
  | dct ks vs => cases hf
  | lst xs =>
    obtain ⟨a, ys, rfl, h3, h4⟩ := lstOf hx2
    cases hf
    refine ⟨a, ys, rfl, .inl (kk ▸ h3), ?_⟩
    have q3 := q2 H (Same.refl H) _ (.int _)
    rw [h4.length]
    exact q3
end

/-! ### writes -/
section
variable {X : Cx} {C : Ct} {W : WX} {a b c : Expr} {ia ib ic : IE} {pos : Pos}
theorem smutE {f : MC → List D → Option (MC × D)} {k : Bool} {i : Nat} {as : IEs} {σ : Sg} {H : Hp} {Q : VK} (h : rdE C W (.smut k i f as) σ H Q) :
    ∃ e, EnvOk C.K H σ e ∧ (∃ a o p c, σ[i]? = some (some (.ref a)) ∧ H a = some o ∧ McOk C.K H o c ∧ e[i]? = some (.mt p c) ∧ c.isL = k ∧
      fin C W σ e H (fun ds e1 H1 => ∃ o1 c1 c2 d, H1 a = some o1 ∧ McOk C.K H1 o1 c1 ∧ c1.isL = c.isL ∧ f c1 ds = some (c2, d) ∧ c2.isL = c1.isL ∧
        ∀ o2 H2 v, Same H1 H2 → McOk C.K H2 o2 c2 → Fd C.K H2 v d → (∀ H3, H3 = upd H2 a o2 → ∀ v', Fd C.K H3 v' d → Q v' H3)) (evs C.T as e)) := by
  obtain ⟨e, E, q⟩ := h
  simp only [ev] at q
  obtain ⟨hb, q⟩ := stuckN q
  obtain ⟨a, o, p, c, h1, h2, h3, h4, hkk⟩ := bndM_at E hb
  refine ⟨e, E, a, o, p, c, h1, h2, h3, h4, hkk, q.bind'.mono fun ds e1 H1 g q1 => ?_⟩
  cases hr : rdM e1 i with
  | none => rw [hr] at q1; exact q1.elim
  | some c1 =>
    rw [hr] at q1
    cases hf : f c1 ds with
    | none => simp only [Option.bind_some, hf] at q1; exact q1.elim
    | some cd =>
      obtain ⟨c2, d⟩ := cd
      simp only [Option.bind_some, hf] at q1
      unfold wrM at q1
      cases he : e1[i]? with
      | none => rw [he] at q1; exact q1.elim
      | some s =>
        rw [he] at q1
        cases s with
        | un => exact q1.elim
        | val _ => exact q1.elim
        | mt p' c0 =>
          have e0 : c0 = c1 := by
            unfold rdM at hr
            rw [he] at hr
            exact Option.some.inj hr
          subst e0
          obtain ⟨a', o1, k1, k2, k3⟩ := g.env.mt i p' c0 he
          rw [h1] at k1
          cases k1
          obtain ⟨c', k4, k5⟩ := g.mu i p' c0 he
          rw [h4] at k4
          cases k4
          by_cases hl : c2.isL = c0.isL
          · simp only [hl, if_true] at q1
            refine ⟨o1, c0, c2, d, k2, k3, k5.symm, hf, hl, fun o2 H2 v s m2 r H3 e3 v' r' => ?_⟩
            subst e3
            have E2 := g.env.same s
            have gw := Ge.write E2 he h1 (s _ _ k2) (k3.kt (KT.same s)) m2 hl
            exact q1 _ ((Ge.same g.env s).trans gw) v' r'
          · simp only [hl, if_false] at q1
            exact q1.elim
end
end Eng

set_option Elab.async false
set_option linter.all false
set_option maxRecDepth 100000
/-! Rules: list methods on slots, calls of defs. -/
namespace Eng
open PySem PySem.Spec L2
section
variable {X : Cx} {C : Ct} {W : WX} {a b c : Expr} {ia ib ic : IE} {pos : Pos}
theorem lstAt {K : Kx} {H : Hp} {o : HO} {c : MC} (h : McOk K H o c) (hl : c.isL = true) : ∃ xs ds, o = .lst xs ∧ c = .lst ds ∧ Fds K H xs ds := by
  cases o <;> cases c <;> first
    | exact h.elim
    | exact ⟨_, _, rfl, rfl, h⟩
    | cases hl
theorem fApp_some {c c2 : MC} {ds : List D} {d : D} (h : fApp c ds = some (c2, d)) : ∃ xs y, c = .lst xs ∧ ds = [y] ∧ xs.length < 16777216 ∧ c2 = .lst (xs ++ [y]) ∧ d = .non := by
  unfold fApp at h
  split at h
  · split at h
    · rename_i hl
      cases h
      exact ⟨_, _, rfl, rfl, hl, rfl, rfl⟩
    · cases h
  · cases h
theorem se_app (i : Nat) {x : Str} {p apos : Pos} (kk : C.K.k = X.K) (hb : SE X C W b ib) (hN : X.N[i]? = some x := by rfl) (hv : Vis X.env.scope x := by first | exact Or.inl rfl | exact Or.inr (Or.inl rfl) | exact Or.inr (Or.inr rfl))
    (hd : (x == ("__debug__" : Str)) = false := by decide) (hcd : (x == ("__classdict__" : Str)) = false := by decide)
    (hbase : attributeBase (.Name x p) "append" X.env (eval (.Name x p) X.env) = eval (.Name x p) X.env := by rfl)
    (hfew : ((backTo pos (starEach [b] X.env)).all (fun x => !x.1) && (backToKw pos (keywordEach [] X.env)).all (fun x => x.1.isSome)
      && decide ([b].length + ([] : List Keyword).length + (if ([] : List Keyword).isEmpty then 0 else 1) < 30)) = true := by rfl)
    (hline : (apos.endLine == pos.line) = true := by rfl) (hs : starEach [b] X.env = (false, eval b X.env) :: starEach [] X.env := by rfl) (hplain : (backTo pos (starEach [] X.env)).any (·.1) = false := by rfl) :
    SE X C W (.Call (.Attribute (.Name x p) "append" apos) [b] [] pos) (.smut true i fApp (.cons ib .nil)) :=
  peImp (pe_bm PySem.F.plainAttrs_list PySem.F.slot_list_append PySem.F.type_list_append mt_append (pe_var (i := i) hN hv hd hcd) (pa_cons hb pa_nil hs) hbase hfew hline hs hplain) fun σ H Q h => by
    obtain ⟨e, E, a, o, p, c, h1, h2, h3, h4, hc, q⟩ := smutE h
    simp only [evs, Out.bind_assoc, Out.ok_bind] at q
    refine ⟨_, h1, ?_, e, E, q.bind'.mono fun d e1 H1 g q1 v r => ?_⟩
    · obtain ⟨xs, ds, rfl, rfl, _⟩ := lstAt h3 hc
      exact .inl ⟨rfl, xs, SqL.of h2⟩
    · have q2 := fin.okE g.env q1
      obtain ⟨o1, c1, c2, d2, k1, k2, k3, k4, k5, k6⟩ := q2
      obtain ⟨xs, y, rfl, e2, hl, rfl, rfl⟩ := fApp_some k4
      cases e2
      obtain ⟨vs, ds', rfl, e3, k7⟩ := lstAt k2 rfl
      cases e3
      refine ⟨a, vs, v, rfl, rfl, k1, by rw [k7.length, sz_eq]; exact hl, ?_⟩
      exact k6 (.lst (vs ++ [v])) H1 .non (Same.refl H1) (k7.append (.cons r .nil)) .non _ rfl _ .non
theorem fPop_some {c c2 : MC} {ds : List D} {d : D} (h : fPop c ds = some (c2, d)) : ∃ xs, c = .lst xs ∧ ds = [] ∧ xs[xs.length - 1]? = some d ∧ c2 = .lst xs.dropLast := by
  unfold fPop at h
  split at h
  · split at h
    · rename_i hl
      cases h
      exact ⟨_, rfl, rfl, hl, rfl⟩
    · cases h
  · cases h
theorem se_pop (i : Nat) {x : Str} {p apos : Pos} (kk : C.K.k = X.K) (hN : X.N[i]? = some x := by rfl) (hv : Vis X.env.scope x := by first | exact Or.inl rfl | exact Or.inr (Or.inl rfl) | exact Or.inr (Or.inr rfl))
    (hd : (x == ("__debug__" : Str)) = false := by decide) (hcd : (x == ("__classdict__" : Str)) = false := by decide)
    (hbase : attributeBase (.Name x p) "pop" X.env (eval (.Name x p) X.env) = eval (.Name x p) X.env := by rfl) (hline : (apos.endLine == pos.line) = true := by rfl) :
    SE X C W (.Call (.Attribute (.Name x p) "pop" apos) [] [] pos) (.smut true i fPop .nil) :=
  peImp (pe_bm0 PySem.F.plainAttrs_list PySem.F.slot_list_pop PySem.F.type_list_pop mt_pop (pe_var (i := i) hN hv hd hcd) hbase hline) fun σ H Q h => by
    obtain ⟨e, E, a, o, p, c, h1, h2, h3, h4, hc, q⟩ := smutE h
    simp only [evs] at q
    have q2 := fin.okE E q
    obtain ⟨o1, c1, c2, d2, k1, k2, k3, k4, k5, k6⟩ := q2
    obtain ⟨xs, rfl, _, hl, rfl⟩ := fPop_some k4
    obtain ⟨vs, ds', rfl, e3, k7⟩ := lstAt k2 rfl
    cases e3
    refine ⟨_, h1, .inl ⟨rfl, vs, SqL.of k1⟩, a, vs, ?_⟩
    obtain ⟨v, e4, r⟩ := k7.get hl
    rw [← k7.length] at e4
    refine ⟨v, rfl, rfl, k1, e4, ?_⟩
    have kt : KT H (upd H a (.lst vs.dropLast)) := (E.keepKT (H' := upd H a (.lst vs.dropLast)) fun b o' hb n => by
      rw [upd_ne (fun z => n (by rw [z]; exact ⟨i, h1, _, _, h4⟩))]
      exact hb)
    exact k6 (.lst vs.dropLast) H v (Same.refl H) k7.dropLast r _ rfl v (r.kt kt)

/-! ### x[i] = e -/
theorem fSet_some {c c2 : MC} {ds : List D} {d : D} (h : fSet c ds = some (c2, d)) : ∃ xs y i j, c = .lst xs ∧ ds = [y, .int i] ∧ ixN xs.length i = some j ∧ c2 = .lst (xs.set j y) ∧ d = .non := by
  unfold fSet at h
  split at h
  · split at h
    · rename_i hl
      cases h
      exact ⟨_, _, _, _, rfl, rfl, hl, rfl, rfl⟩
    · cases h
  · cases h
end
/-! ### what a call of a def promises -/
inductive AvsOk (K : Kx) (σ : Sg) (H : Hp) : List V → List AV → Prop
  | nil : AvsOk K σ H [] []
  | d {v : V} {d : D} {vs : List V} {as : List AV} : Fd K H v d → AvsOk K σ H vs as → AvsOk K σ H (v :: vs) (.d d :: as)
  | s {v : V} {i : Nat} {vs : List V} {as : List AV} : σ[i]? = some (some v) → AvsOk K σ H vs as → AvsOk K σ H (v :: vs) (.s i :: as)
def rdA (C : Ct) (W : WX) (ias : IAs) : TA := fun σ H Q => ∃ e, EnvOk C.K H σ e ∧ fin C W σ e H (fun avs e' H' => ∀ vs, AvsOk C.K σ H' vs avs → Q vs H') (eva C.T ias e)
def SAs (X : Cx) (C : Ct) (W : WX) (es : List Expr) (ias : IAs) : Prop := PA X es (rdA C W ias)
section
variable {X : Cx} {C : Ct} {W : WX} {e : Expr} {es : List Expr} {ie : IE} {ias : IAs} {pos : Pos}
theorem AvsOk.kt {K : Kx} {σ : Sg} {H H' : Hp} (k : KT H H') : ∀ {vs : List V} {as : List AV}, AvsOk K σ H vs as → AvsOk K σ H' vs as
  | _, _, .nil => .nil
  | _, _, .d r t => .d (r.kt k) (AvsOk.kt k t)
  | _, _, .s e t => .s e (AvsOk.kt k t)
theorem sas_nil : SAs X C W [] .nil := paImp pa_nil fun σ H Q ⟨e, E, q⟩ => by
  simp only [eva] at q
  have q' := fin.okE E q
  exact q' [] .nil
theorem sas_e (ha : SE X C W e ie) (hr : SAs X C W es ias) (hs : starEach (e :: es) X.env = (false, eval e X.env) :: starEach es X.env := by rfl) : SAs X C W (e :: es) (.e ie ias) :=
  paImp (pa_cons ha hr hs) fun σ H Q ⟨e, E, q⟩ => by
    simp only [eva, Out.bind_assoc, Out.ok_bind] at q
    refine ⟨e, E, q.bind'.mono fun d1 e1 H1 g1 q1 v1 r1 => ⟨e1, g1.env, q1.bind'.mono fun ds e2 H2 g2 q2 vs rs => ?_⟩⟩
    have q3 := fin.okE g2.env q2
    exact q3 _ (.d (r1.kt (g2.kt g1.env)) rs)
theorem sas_s (i : Nat) {x : Str} {p : Pos} (hr : SAs X C W es ias) (hN : X.N[i]? = some x := by rfl) (hv : Vis X.env.scope x := by first | exact Or.inl rfl | exact Or.inr (Or.inl rfl) | exact Or.inr (Or.inr rfl))
    (hd : (x == ("__debug__" : Str)) = false := by decide) (hcd : (x == ("__classdict__" : Str)) = false := by decide) (hs : starEach (.Name x p :: es) X.env = (false, eval (.Name x p) X.env) :: starEach es X.env := by rfl) : SAs X C W (.Name x p :: es) (.s i ias) :=
  paImp (pa_cons (pe_var (i := i) hN hv hd hcd) hr hs) fun σ H Q ⟨e, E, q⟩ => by
    simp only [eva] at q
    obtain ⟨hb, q⟩ := stuckN q
    obtain ⟨x, hx⟩ := bnd_at E hb
    refine ⟨x, hx, e, E, q.bind'.mono fun ds e1 H1 g q1 vs rs => ?_⟩
    have q3 := fin.okE g.env q1
    exact q3 _ (.s hx rs)
end
end Eng

set_option Elab.async false
set_option linter.all false
set_option maxRecDepth 100000
/-! Calls of defs: what is promised, how it is used. -/
namespace Eng
open PySem PySem.Spec L2

theorem noTwice_app {l m : List Nat} (h : noTwice (l ++ m) = true) : noTwice m = true ∧ ∀ x ∈ l, x ∉ m := by
  induction l with
  | nil => exact ⟨h, fun x z => by cases z⟩
  | cons a l ih =>
    simp only [List.cons_append, noTwice, Bool.and_eq_true, Bool.not_eq_true', List.contains_eq_mem, decide_eq_false_iff_not] at h
    obtain ⟨h1, h2⟩ := h
    obtain ⟨h3, h4⟩ := ih h2
    refine ⟨h3, fun x hx => ?_⟩
    rcases List.mem_cons.mp hx with rfl | hx
    · exact fun z => h1 (List.mem_append_right _ z)
    · exact h4 x hx
theorem isS_s {e : Sls} {i : Nat} {p : Bool} {c : MC} (he : e[i]? = some (.mt p c)) : isS e (.s i) = [i] := by
  show (match e[i]? with | some (.mt _ _) => [i] | _ => []) = [i]
  rw [he]
theorem isS_of {e : Sls} {i j : Nat} (h : j ∈ isS e (.s i)) : j = i ∧ ∃ p c, e[i]? = some (.mt p c) := by
  have h : j ∈ (match e[i]? with | some (.mt _ _) => [i] | _ => []) := h
  cases he : e[i]? with
  | none => rw [he] at h; cases h
  | some s =>
    rw [he] at h
    cases s with
    | un => cases h
    | val _ => cases h
    | mt p c => exact ⟨List.mem_singleton.mp h, p, c, rfl⟩
theorem isS_mem {e : Sls} {i : Nat} {p : Bool} {c : MC} {avs : List AV} {j : Nat} (hj : avs[j]? = some (.s i)) (he : e[i]? = some (.mt p c)) : i ∈ avs.flatMap (isS e) :=
  List.mem_flatMap.mpr ⟨_, List.mem_of_getElem? hj, by rw [isS_s he]; exact List.mem_singleton.mpr rfl⟩
theorem mkArgs_get {e : Sls} : ∀ {avs : List AV} {ar : Sls}, mkArgs e avs = some ar → ar.length = avs.length ∧ ∀ (j : Nat) (a : AV), avs[j]? = some a → ∃ s, mkArg e a = some s ∧ ar[j]? = some s
  | [], ar, h => by cases h; exact ⟨rfl, fun j a z => by simp at z⟩
  | a :: as, ar, h => by
    unfold mkArgs at h
    obtain ⟨s, h1, h2⟩ := Option.bind_eq_some_iff.mp h
    obtain ⟨r, h3, h4⟩ := Option.map_eq_some_iff.mp h2
    subst h4
    obtain ⟨k1, k2⟩ := mkArgs_get h3
    refine ⟨by simp [k1], fun j a' z => ?_⟩
    cases j with
    | zero => simp at z; subst z; exact ⟨s, h1, by simp⟩
    | succ j => exact ⟨_, (k2 j a' (by simpa using z)).choose_spec.1, by simpa using (k2 j a' (by simpa using z)).choose_spec.2⟩
section
variable {K : Kx} {σ : Sg} {H H' : Hp} {e : Sls}
theorem avsLen : ∀ {vs : List V} {avs : List AV}, AvsOk K σ H vs avs → vs.length = avs.length
  | _, _, .nil => rfl
  | _, _, .d _ t => by simp [avsLen t]
  | _, _, .s _ t => by simp [avsLen t]
theorem avsGet : ∀ {vs : List V} {avs : List AV} {j : Nat} {a : AV}, AvsOk K σ H vs avs → avs[j]? = some a → ∃ v, vs[j]? = some v ∧ (match a with | .d w => Fd K H v w | .s i => σ[i]? = some (some v))
  | _, _, j, a, .nil, z => by simp at z
  | _, _, 0, a, .d r t, z => by simp at z; subst z; exact ⟨_, rfl, r⟩
  | _, _, 0, a, .s r t, z => by simp at z; subst z; exact ⟨_, rfl, r⟩
  | _, _, j + 1, a, .d r t, z => by
    obtain ⟨v, h1, h2⟩ := avsGet (j := j) t (by simpa using z)
    exact ⟨v, by simpa using h1, h2⟩
  | _, _, j + 1, a, .s r t, z => by
    obtain ⟨v, h1, h2⟩ := avsGet (j := j) t (by simpa using z)
    exact ⟨v, by simpa using h1, h2⟩
/-- an argument's slot that may be written comes from a slot of ours -/
theorem arg_mt {avs : List AV} {ar : Sls} {vs : List V} (E : EnvOk K H σ e) (A : AvsOk K σ H vs avs) (hm : mkArgs e avs = some ar) {j : Nat} {p : Bool} {c : MC} (h : ar[j]? = some (.mt p c)) :
    p = true ∧ ∃ i q a o, avs[j]? = some (.s i) ∧ e[i]? = some (.mt q c) ∧ vs[j]? = some (.ref a) ∧ σ[i]? = some (some (.ref a)) ∧ H a = some o ∧ McOk K H o c := by
  obtain ⟨l1, k1⟩ := mkArgs_get hm
  have hj : j < avs.length := by rw [← l1]; exact (List.getElem?_eq_some_iff.mp h).1
  obtain ⟨s, h1, h2⟩ := k1 j avs[j] (by simp [hj])
  rw [h] at h2
  cases h2
  have ha : avs[j]? = some avs[j] := by simp [hj]
  cases hv : avs[j] with
  | d d => rw [hv] at h1; cases h1
  | s i =>
    rw [hv] at h1 ha
    have h1 : (match e[i]? with | some (.mt _ c) => some (.mt true c) | some (.val d) => some (.val d) | _ => none) = some (Slo.mt p c) := h1
    cases he : e[i]? with
    | none => simp only [he] at h1; cases h1
    | some s =>
      simp only [he] at h1
      cases s with
      | un => cases h1
      | val d => cases h1
      | mt q c' =>
        cases h1
        obtain ⟨a, o, q1, q2, q3⟩ := E.mt i q c he
        obtain ⟨v, v1, v2⟩ := avsGet A ha
        have v2 : σ[i]? = some (some v) := v2
        rw [q1] at v2
        cases v2
        exact ⟨rfl, i, q, a, o, ha, he, v1, q1, q2, q3⟩
theorem map_some_get {vs : List V} {j : Nat} {v : V} (h : vs[j]? = some v) : (vs.map some)[j]? = some (some v) := by rw [List.getElem?_map, h]; rfl
theorem of_map_some {vs : List V} {j : Nat} {v : V} (h : (vs.map some)[j]? = some (some v)) : vs[j]? = some v := by
  rw [List.getElem?_map] at h
  cases e : vs[j]? with
  | none => rw [e] at h; cases h
  | some w => rw [e] at h; cases h; rfl
/-- no thing is handed twice -/
theorem args_inj {avs : List AV} {ar : Sls} {vs : List V} (E : EnvOk K H σ e) (A : AvsOk K σ H vs avs) (hm : mkArgs e avs = some ar) (hn : noTwice (avs.flatMap (isS e)) = true) :
    ∀ (j k : Nat) (a : Addr), MwI (vs.map some) ar j a → MwI (vs.map some) ar k a → j = k := by
  intro j k a ⟨h1, p, c, h2⟩ ⟨h3, p', c', h4⟩
  obtain ⟨_, i, q, a1, o, i1, i2, i3, i4, _⟩ := arg_mt E A hm h2
  obtain ⟨_, i', q', a2, o', j1, j2, j3, j4, _⟩ := arg_mt E A hm h4
  have e1 := of_map_some h1
  rw [i3] at e1
  cases e1
  have e2 := of_map_some h3
  rw [j3] at e2
  cases e2
  have ei : i = i' := E.inj i i' a ⟨i4, _, _, i2⟩ ⟨j4, _, _, j2⟩
  subst ei
  -- the same slot at two places
  clear A hm h1 h2 h3 h4 i3 j3
  induction avs generalizing j k with
  | nil => simp at i1
  | cons x xs ih =>
    rw [List.flatMap_cons] at hn
    obtain ⟨hn1, hn2⟩ := noTwice_app hn
    have hx : x = .s i → i ∈ isS e x := fun z => by subst z; rw [isS_s i2]; exact List.mem_singleton.mpr rfl
    cases j with
    | zero =>
      cases k with
      | zero => rfl
      | succ k =>
        simp at i1 j1
        exact absurd (isS_mem j1 i2) (hn2 i (hx i1))
    | succ j =>
      cases k with
      | zero =>
        simp at i1 j1
        exact absurd (isS_mem i1 i2) (hn2 i (hx j1))
      | succ k =>
        simp at i1 j1
        rw [ih hn1 j k i1 j1]
theorem args_env {avs : List AV} {ar : Sls} {vs : List V} (E : EnvOk K H σ e) (A : AvsOk K σ H vs avs) (hm : mkArgs e avs = some ar) (hn : noTwice (avs.flatMap (isS e)) = true) : EnvOk K H (vs.map some) ar := by
  obtain ⟨l1, k1⟩ := mkArgs_get hm
  refine ⟨by simp [l1, avsLen A], fun j d h => ?_, fun j p c h => ?_, args_inj E A hm hn, E.fix⟩
  · have hj : j < avs.length := by rw [← l1]; exact (List.getElem?_eq_some_iff.mp h).1
    have ha : avs[j]? = some avs[j] := by simp [hj]
    obtain ⟨s, h1, h2⟩ := k1 j avs[j] ha
    rw [h] at h2
    cases h2
    obtain ⟨v, v1, v2⟩ := avsGet A ha
    cases hv : avs[j] with
    | d d' =>
      rw [hv] at h1 v2
      cases h1
      exact ⟨v, map_some_get v1, v2⟩
    | s i =>
      rw [hv] at h1 v2
      have h1 : (match e[i]? with | some (.mt _ c) => some (.mt true c) | some (.val d) => some (.val d) | _ => none) = some (Slo.val d) := h1
      cases he : e[i]? with
      | none => simp only [he] at h1; cases h1
      | some s =>
        simp only [he] at h1
        cases s with
        | un => cases h1
        | mt q c' => cases h1
        | val d' =>
          cases h1
          obtain ⟨w, w1, w2⟩ := E.val i d he
          have v2 : σ[i]? = some (some v) := v2
          rw [w1] at v2
          cases v2
          exact ⟨_, map_some_get v1, w2⟩
  · obtain ⟨_, i, q, a, o, _, _, i3, _, i5, i6⟩ := arg_mt E A hm h
    exact ⟨a, o, map_some_get i3, i5, i6⟩
end

/-- the arguments' slots behind a call: things stay things of their kind -/
def Shp (ar ar' : Sls) : Prop := ar'.length = ar.length ∧ ∀ (j : Nat) (p : Bool) (c : MC), ar[j]? = some (.mt p c) → ∃ c', ar'[j]? = some (.mt true c') ∧ c'.isL = c.isL
def RvF (K : Kx) (H H' : Hp) (v : V) : RV → Prop
  | .v d => Fd K H' v d
  | .fr c => ∃ a o, v = .ref a ∧ H a = none ∧ H' a = some o ∧ McOk K H' o c
/-- what has become of the heap of the arguments -/
structure Aft (K : Kx) (vs : List V) (ar : Sls) (H : Hp) (ar' : Sls) (H' : Hp) : Prop where
  shp : Shp ar ar'
  keep : ∀ b o, H b = some o → ¬ Mw (vs.map some) ar b → H' b = some o
  mt : ∀ (j : Nat) (p : Bool) (c : MC), ar'[j]? = some (.mt p c) → (∃ q c0, ar[j]? = some (.mt q c0)) → ∃ a o, vs[j]? = some (.ref a) ∧ H' a = some o ∧ McOk K H' o c
def fEnd (C : Ct) (vs : List V) (ar : Sls) (H : Hp) (Q : VK) (E : XK) : FOut → Prop
  | .ok r ar' => ∀ v H', Aft C.K vs ar H ar' H' → RvF C.K H H' v r → Q v H'
  | .exc x ar' => ∀ cls d H', Aft C.K vs ar H ar' H' → C.ex H' cls d x → E cls d H'
  | .stuck => False
/-- THE PROMISE of the k-th def -/
def spC (C : Ct) (k : Nat) : Sp := fun vs H Q E => ∃ ar, EnvOk C.K H (vs.map some) ar ∧ (∀ (i : Nat) (p : Bool) (c : MC), ar[i]? = some (.mt p c) → p = true) ∧ fEnd C vs ar H Q E (C.T.run k ar)

/-! ### the callee's changes brought back -/
theorem isS_set {e : Sls} {i : Nat} {p : Bool} {c c' : MC} (he : e[i]? = some (.mt p c)) (a : AV) : isS (e.set i (.mt p c')) a = isS e a := by
  cases a with
  | d d => rfl
  | s j =>
    show (match (e.set i (.mt p c'))[j]? with | some (.mt _ _) => [j] | _ => []) = (match e[j]? with | some (.mt _ _) => [j] | _ => [])
    by_cases h : i = j
    · subst h
      rw [List.getElem?_set_self (List.getElem?_eq_some_iff.mp he).1, he]
    · rw [List.getElem?_set_ne h]
theorem putBack_len : ∀ (avs : List AV) (ar : Sls) (e : Sls), (putBack e avs ar).length = e.length
  | [], ar, e => by cases ar <;> rfl
  | .s i :: as, [], e => rfl
  | .d d :: as, [], e => rfl
  | .d d :: as, s :: ar, e => by
    show (putBack e as ar).length = _
    exact putBack_len as ar e
  | .s i :: as, s :: ar, e => by
    unfold putBack
    split
    · rw [putBack_len as ar]; simp
    · exact putBack_len as ar e
theorem putBack_other : ∀ (avs : List AV) (ar : Sls) (e : Sls) (i : Nat), i ∉ avs.flatMap (isS e) → (putBack e avs ar)[i]? = e[i]?
  | [], ar, e, i, _ => by cases ar <;> rfl
  | .s j :: as, [], e, i, _ => rfl
  | .d d :: as, [], e, i, _ => rfl
  | .d d :: as, s :: ar, e, i, h => by
    show (putBack e as ar)[i]? = _
    exact putBack_other as ar e i (by simpa [List.flatMap_cons, isS] using h)
  | .s j :: as, s :: ar, e, i, h => by
    rw [List.flatMap_cons, List.mem_append] at h
    unfold putBack
    split
    · rename_i p c0 q c hj
      have hne : j ≠ i := fun z => h (.inl (by subst z; rw [isS_s hj]; exact List.mem_singleton.mpr rfl))
      rw [putBack_other as ar _ i (by
        have : (as.flatMap (isS (e.set j (.mt p c)))) = as.flatMap (isS e) := by
          congr 1
          funext a
          exact isS_set hj a
        rw [this]
        exact fun z => h (.inr z)), List.getElem?_set_ne hne]
    · exact putBack_other as ar e i (fun z => h (.inr z))
theorem putBack_at : ∀ (avs : List AV) (ar : Sls) (e : Sls) (i j : Nat) (p q : Bool) (c c' : MC), noTwice (avs.flatMap (isS e)) = true → avs[j]? = some (.s i) → e[i]? = some (.mt p c) → ar[j]? = some (.mt q c') → (putBack e avs ar)[i]? = some (.mt p c')
  | [], _, e, i, j, p, q, c, c', _, h, _, _ => by simp at h
  | .s k :: as, [], e, i, j, p, q, c, c', _, h, _, h2 => by simp at h2
  | .d d :: as, [], e, i, j, p, q, c, c', _, h, _, h2 => by simp at h2
  | .d d :: as, s :: ar, e, i, j, p, q, c, c', hn, h, he, h2 => by
    show (putBack e as ar)[i]? = _
    cases j with
    | zero => simp at h
    | succ j => exact putBack_at as ar e i j p q c c' (by simpa [List.flatMap_cons, isS] using hn) (by simpa using h) he (by simpa using h2)
  | .s k :: as, s :: ar, e, i, j, p, q, c, c', hn, h, he, h2 => by
    rw [List.flatMap_cons] at hn
    obtain ⟨hn1, hn2⟩ := noTwice_app hn
    cases j with
    | zero =>
      simp at h h2
      subst h
      subst h2
      unfold putBack
      rw [he]
      have hni : k ∉ as.flatMap (isS e) := hn2 k (by rw [isS_s he]; exact List.mem_singleton.mpr rfl)
      show (putBack (e.set k (.mt p c')) as ar)[k]? = _
      rw [putBack_other as ar _ k (by
        have : (as.flatMap (isS (e.set k (.mt p c')))) = as.flatMap (isS e) := by
          congr 1
          funext a
          exact isS_set he a
        rw [this]
        exact hni), List.getElem?_set_self (List.getElem?_eq_some_iff.mp he).1]
    | succ j =>
      simp at h h2
      unfold putBack
      split
      · rename_i p0 c0 q0 c1 hk
        have hne : k ≠ i := fun z => hn2 k (by rw [isS_s hk]; exact List.mem_singleton.mpr rfl) (by rw [z]; exact isS_mem h he)
        refine putBack_at as ar _ i j p q c c' ?_ h (by rw [List.getElem?_set_ne hne]; exact he) h2
        have : (as.flatMap (isS (e.set k (.mt p0 c1)))) = as.flatMap (isS e) := by
          congr 1
          funext a
          exact isS_set hk a
        rw [this]
        exact hn1
      · exact putBack_at as ar e i j p q c c' hn1 h he h2
section
variable {K : Kx} {σ : Sg} {H H' : Hp} {e : Sls}
/-- behind a call -/
theorem Ge.call {avs : List AV} {ar ar' : Sls} {vs : List V} (E : EnvOk K H σ e) (A : AvsOk K σ H vs avs) (hm : mkArgs e avs = some ar) (hn : noTwice (avs.flatMap (isS e)) = true) (F : Aft K vs ar H ar' H') : Ge K σ e H (putBack e avs ar') H' := by
  obtain ⟨l1, k1⟩ := mkArgs_get hm
  have toOur : ∀ b, Mw (vs.map some) ar b → Mw σ e b := fun b ⟨j, h1, p, c, h2⟩ => by
    obtain ⟨_, i, q, a, o, _, i2, i3, i4, _⟩ := arg_mt E A hm h2
    have z := of_map_some h1
    rw [i3] at z
    cases z
    exact ⟨i, i4, _, _, i2⟩
  have kt : KT H H' := E.keepKT fun b o h n => F.keep b o h fun m => n (toOur b m)
  -- a slot of ours behind the call
  have cases_ : ∀ (i : Nat) (p : Bool) (c : MC), e[i]? = some (Slo.mt p c) → (i ∉ avs.flatMap (isS e) ∧ (putBack e avs ar')[i]? = some (.mt p c)) ∨ ∃ (j : Nat) (c' : MC), avs[j]? = some (AV.s i) ∧ ar[j]? = some (Slo.mt true c) ∧ ar'[j]? = some (Slo.mt true c') ∧ c'.isL = c.isL ∧ (putBack e avs ar')[i]? = some (Slo.mt p c') := fun i p c he => by
    by_cases hi : i ∈ avs.flatMap (isS e)
    · obtain ⟨a, ha, hi2⟩ := List.mem_flatMap.mp hi
      cases a with
      | d d => cases hi2
      | s i' =>
        obtain ⟨ei, _⟩ := isS_of hi2
        subst ei
        obtain ⟨j, hj⟩ := List.getElem?_of_mem ha
        obtain ⟨s, h1, h2⟩ := k1 j _ hj
        have e1 : s = .mt true c := by
          have h1 : (match e[i]? with | some (.mt _ c) => some (.mt true c) | some (.val d) => some (.val d) | _ => none) = some s := h1
          rw [he] at h1
          exact (Option.some.inj h1).symm
        subst e1
        obtain ⟨c', h3, h4⟩ := F.shp.2 j _ _ h2
        exact .inr ⟨j, c', hj, h2, h3, h4, putBack_at avs ar' e i j p true c c' hn hj he h3⟩
    · exact .inl ⟨hi, (putBack_other avs ar' e i hi).trans he⟩
  have notMt : ∀ (i : Nat) (s : Slo), (∀ p c, s ≠ .mt p c) → ((putBack e avs ar')[i]? = some s ↔ e[i]? = some s) := fun i s hs => by
    cases he : e[i]? with
    | none =>
      have : (putBack e avs ar')[i]? = none := by
        rw [List.getElem?_eq_none_iff, putBack_len]
        exact List.getElem?_eq_none_iff.mp he
      rw [this]
    | some t =>
      cases t with
      | mt p c =>
        rcases cases_ i p c he with ⟨_, h⟩ | ⟨j, c', _, _, _, _, h⟩ <;> rw [h] <;> constructor <;> intro z <;> exact absurd (Option.some.inj z).symm (hs _ _)
      | _ =>
        have hi : i ∉ avs.flatMap (isS e) := fun z => by
          obtain ⟨a, ha, hi2⟩ := List.mem_flatMap.mp z
          cases a with
          | d d => cases hi2
          | s i' =>
            obtain ⟨ei, p0, c0, h⟩ := isS_of hi2
            subst ei
            rw [he] at h
            cases h
        rw [putBack_other avs ar' e i hi, he]
  have backMt : ∀ (i : Nat) (p : Bool) (c' : MC), (putBack e avs ar')[i]? = some (Slo.mt p c') → ∃ c, e[i]? = some (Slo.mt p c) ∧ c.isL = c'.isL := fun i p c' h => by
    cases he : e[i]? with
    | none =>
      have : (putBack e avs ar')[i]? = none := by
        rw [List.getElem?_eq_none_iff, putBack_len]
        exact List.getElem?_eq_none_iff.mp he
      rw [this] at h
      cases h
    | some t =>
      cases t with
      | mt q c =>
        rcases cases_ i q c he with ⟨_, k⟩ | ⟨j, c2, _, _, _, kl, k⟩
        · rw [k] at h
          cases h
          exact ⟨_, rfl, rfl⟩
        · rw [k] at h
          cases h
          exact ⟨_, rfl, kl.symm⟩
      | un =>
        have := (notMt i .un (fun _ _ z => by cases z)).mpr he
        rw [this] at h
        cases h
      | val d =>
        have := (notMt i (.val d) (fun _ _ z => by cases z)).mpr he
        rw [this] at h
        cases h
  refine ⟨⟨by rw [E.len, putBack_len], fun i d h => ?_, fun i p c' h => ?_, fun i j a ⟨h1, p, c, h2⟩ ⟨h3, p', c', h4⟩ => ?_, fun b fs h => ?_⟩, fun b o h n => F.keep b o h fun m => n (toOur b m), backMt, fun b ⟨i, h1, p, c, h2⟩ => ?_⟩
  · obtain ⟨v, h1, h2⟩ := E.val i d ((notMt i (.val d) (fun _ _ z => by cases z)).mp h)
    exact ⟨v, h1, h2.kt kt⟩
  · obtain ⟨c, he, _⟩ := backMt i p c' h
    obtain ⟨a, o, q1, q2, q3⟩ := E.mt i p c he
    rcases cases_ i p c he with ⟨hi, k⟩ | ⟨j, c2, hj, hj2, hj3, kl, k⟩
    · rw [k] at h
      cases h
      refine ⟨a, o, q1, F.keep a o q2 fun ⟨j, h1, p', c0, h2⟩ => ?_, q3.kt kt⟩
      obtain ⟨_, i', q, a', o', i1, i2, i3, i4, _⟩ := arg_mt E A hm h2
      have z := of_map_some h1
      rw [i3] at z
      cases z
      have ei := E.inj i i' _ ⟨q1, _, _, he⟩ ⟨i4, _, _, i2⟩
      subst ei
      exact hi (isS_mem i1 i2)
    · rw [k] at h
      cases h
      obtain ⟨a', o', h1, h2, h3⟩ := F.mt j true c' hj3 ⟨_, _, hj2⟩
      obtain ⟨v, v1, v2⟩ := avsGet A hj
      have v2 : σ[i]? = some (some v) := v2
      rw [v1] at h1
      cases h1
      exact ⟨a', o', v2, h2, h3⟩
  · obtain ⟨c1, e1, _⟩ := backMt i p c h2
    obtain ⟨c2, e2, _⟩ := backMt j p' c' h4
    exact E.inj i j a ⟨h1, _, _, e1⟩ ⟨h3, _, _, e2⟩
  · have q := E.fix b fs h
    refine F.keep b _ q fun m => ?_
    obtain ⟨o, c, h1, h2⟩ := E.mu (toOur b m)
    rw [q] at h1
    cases h1
    exact h2.nxd _ rfl
  · obtain ⟨a, o, q1, q2, q3⟩ := E.mt i p c h2
    rw [h1] at q1
    cases q1
    rcases cases_ i p c h2 with ⟨hi, k⟩ | ⟨j, c2, hj, hj2, hj3, kl, k⟩
    · refine ⟨o, F.keep b o q2 fun ⟨j, h1', p', c0, h2'⟩ => ?_⟩
      obtain ⟨_, i', q, a', o', i1, i2, i3, i4, _⟩ := arg_mt E A hm h2'
      have z := of_map_some h1'
      rw [i3] at z
      cases z
      have ei := E.inj i i' _ ⟨h1, _, _, h2⟩ ⟨i4, _, _, i2⟩
      subst ei
      exact hi (isS_mem i1 i2)
    · obtain ⟨a', o', g1, g2, g3⟩ := F.mt j true c2 hj3 ⟨_, _, hj2⟩
      obtain ⟨v, v1, v2⟩ := avsGet A hj
      have v2 : σ[i]? = some (some v) := v2
      rw [v1] at g1
      cases g1
      rw [h1] at v2
      cases v2
      exact ⟨o', g2⟩
end
end Eng

set_option Elab.async false
set_option linter.all false
set_option maxRecDepth 100000
/-! Calls as expressions; roots; targets; things walked. -/
namespace Eng
open PySem PySem.Spec L2
section
variable {K : Kx} {σ : Sg} {H H' : Hp} {e e' : Sls}
/-- a fresh thing is locked -/
theorem Ge.lock (E : EnvOk K H σ e) (g : Ge K σ e H e' H') {a : Addr} {o : HO} {c : MC} {ob : Obj} (h0 : H a = none) (ha : H' a = some o) (m : McOk K H' o c) : Ge K σ e H e' (upd H' a (.frz ob o)) := by
  have kt : KT H' (upd H' a (.frz ob o)) := by
    refine ⟨fun b xs h => ?_, fun b o' u h => ?_⟩
    · rw [upd_ne (fun z => by rw [z, ha] at h; cases h; exact m.nfz.1 _ rfl)]; exact h
    · rw [upd_ne (fun z => by rw [z, ha] at h; cases h; exact m.nfz.2 _ _ rfl)]; exact h
  have nm : ¬ Mw σ e' a := fun z => E.freeI h0 (g.muS z)
  have ne : ∀ b o, H b = some o → b ≠ a := fun b o h z => by rw [z, h0] at h; cases h
  refine ⟨⟨g.env.len, fun i d h => ?_, fun i p c h => ?_, g.env.inj, fun b fs h => ?_⟩, fun b o' h n => ?_, g.mu, fun b m' => ?_⟩
  · obtain ⟨v, h1, h2⟩ := g.env.val i d h
    exact ⟨v, h1, h2.kt kt⟩
  · obtain ⟨a', o', h1, h2, h3⟩ := g.env.mt i p c h
    have : a' ≠ a := fun z => nm ⟨i, by rw [← z]; exact h1, _, _, h⟩
    exact ⟨a', o', h1, by rw [upd_ne this]; exact h2, h3.kt kt⟩
  · have q := g.env.fix b fs h
    rw [upd_ne (fun z => by rw [z, ha] at q; cases q; exact m.nxd _ rfl)]
    exact q
  · rw [upd_ne (ne b o' h)]
    exact g.keep b o' h n
  · obtain ⟨o', h⟩ := g.there b m'
    by_cases z : b = a
    · exact ⟨_, by rw [z]; exact upd_same⟩
    · exact ⟨o', by rw [upd_ne z]; exact h⟩
theorem Ge.fresh (g : Ge K σ e H e' H') {a : Addr} (h : H' a = none) : H a = none := by
  cases q : H a with
  | none => rfl
  | some o =>
    by_cases m : Mw σ e a
    · obtain ⟨o', h'⟩ := g.there a m
      rw [h] at h'; cases h'
    · rw [g.keep a o q m] at h; cases h
theorem Go.fresh {σ' : Sg} (g : Go K σ e H σ' e' H') {a : Addr} (h : H' a = none) : H a = none := by
  cases q : H a with
  | none => rfl
  | some o =>
    by_cases m : Mw σ e a
    · obtain ⟨o', h'⟩ := g.there a m
      rw [h] at h'; cases h'
    · rw [g.keep a o q m] at h; cases h
end

/-! ### calls -/
/-- a def at f keeps the promise sp, called where nothing is being shown -/
structure FnG (P : Program) (w : World) (K : PySem.W.Frag) (mg : Str → Option Value) (base : Heap) (lv : Nat) (f : Addr) (fd : FuncData) (ps : List Str) (sp : Sp) : Prop where
  len : ∀ vs H Q E, sp vs H Q E → vs.length = ps.length
  run : ∀ (A : Around) (outer : List PySem.Env) (s : Shared) (H : Hp) (args : Args) (us : List Value) (vs : List V) (Q : VK) (E : XK), A.guards = some [] → Room lv A → Env0 P w K mg base A outer s H → BindsTo s fd args (ps.zip us) → Vals vs us → sp vs H Q E →
    codeAny (model P w) A (.call (.ref f) args) (CR (L2.CX P w) outer P w H s Q E) s
/-- the k-th def stands under the name x, and keeps its promise -/
structure FnAt (P : Program) (w : World) (K : PySem.W.Frag) (mg : Str → Option Value) (base : Heap) (C : Ct) (lv : Nat) (x : Str) (k : Nat) : Prop where
  ex : ∃ f fd ps, mg x = some (.ref f) ∧ C.K.fa k = f ∧ PySem.W.keepIn K (.ref f) = true ∧ FnG P w K mg base lv f fd ps (spC C k) ∧ Binds K fd ps []
section
variable {X : Cx} {W : WX} {lv : Nat} {f : Addr} {fd : FuncData} {ps : List Str} {sp : Sp} {x : Str} {p pos : Pos} {e : Expr} {es : List Expr} {t : TA}
theorem runG {pins : List (Addr × Obj)} {σ : Sg} {H : Hp} {s : Shared} {Q : VK} {us : List Value} {vs : List V} (F : FnG X.prog X.w X.K X.mg X.base lv f fd ps sp) (hgd : X.A.guards = some []) (hr : Room lv X.A) (hb : Binds X.K fd ps []) (tk : Takes X W)
    (I : Inv X pins σ H s) (r : Vals vs us) (h : sp vs H Q (WE W σ)) : wpAny (model X.prog X.w) X.A (call (.ref f) us) (EP X pins σ Q) X.xe s := by
  have hl := F.len _ _ _ _ h
  have b := hb s us I.kIn (by rw [List.append_nil, ← r.length]; exact hl)
  rw [List.append_nil] at b
  have go := F.run X.A X.stack s H ⟨us, []⟩ us vs Q (WE W σ) hgd hr I.env0 b r h
  refine wpAny_call (codeAny_mono go fun res s' hq => ?_)
  cases res with
  | error e => exact passAt tk σ pins H s e s' I hq
  | ok fl => cases fl <;> first
    | exact I.after hq
    | exact hq.elim
def tCallG (W : WX) (sp : Sp) (t : TA) : TE := fun σ H Q => t σ H fun vs H1 => sp vs H1 Q (WE W σ)
theorem pe_callG (F : FnG X.prog X.w X.K X.mg X.base lv f fd ps sp) (hgd : X.A.guards = some []) (hr : Room lv X.A) (hg : Gl X x) (hm : X.mg x = some (.ref f)) (hk : PySem.W.keepIn X.K (.ref f) = true) (hb : Binds X.K fd ps []) (tk : Takes X W)
    (ha : PA X (e :: es) t) (hdb : (x == ("__debug__" : Str)) = false := by decide) (he : starEach (e :: es) X.env = (false, eval e X.env) :: starEach es X.env := by rfl) (hpl : (backTo pos (starEach es X.env)).any (·.1) = false := by rfl) :
    PE X (.Call (.Name x p) (e :: es) [] pos) (tCallG W sp t) := by
  refine ⟨fun pins s σ H Q I h => wpAny_Call_Name_kw (ld_glob I hg hm ?_ hdb)⟩
  have args := thn (ha.run pos pins s σ H _ I h) (Q' := fun us s1 => X.K.In s1.heap ∧ wpAny (model X.prog X.w) X.A (call (.ref f) us) (EP X pins σ Q) X.xe s1) fun us s1 ⟨vs, H1, I1, r, q⟩ => ⟨I1.kIn, runG F hgd hr hb tk I1 r q⟩
  exact PySem.W.callWith_K (h₀ := X.base) I.ok.mod.kin hk args he hpl
end
section
variable {X : Cx} {C : Ct} {W : WX} {e0 : Expr} {es : List Expr} {ias : IAs} {pos : Pos} {lv k : Nat} {x : Str}
/-- a call's end, from the promise -/
theorem callEnd {σ : Sg} {e1 : Sls} {H1 : Hp} {R : RV → Sls → Hp → Prop} {avs : List AV} {vs : List V} {Q : VK} (E : EnvOk C.K H1 σ e1) (A : AvsOk C.K σ H1 vs avs) (q : fin C W σ e1 H1 R (callF C.T k avs e1))
    (hQ : ∀ r e2 H2 v, Ge C.K σ e1 H1 e2 H2 → R r e2 H2 → RvF C.K H1 H2 v r → Q v H2) : spC C k vs H1 Q (WE W σ) := by
  unfold callF at q
  by_cases hn : noTwice (avs.flatMap (isS e1)) = true
  · rw [if_pos hn] at q
    cases hm : mkArgs e1 avs with
    | none => rw [hm] at q; exact q.elim
    | some ar =>
      rw [hm] at q
      refine ⟨ar, args_env E A hm hn, fun i p c h => (arg_mt E A hm h).1, ?_⟩
      have q : fin C W σ e1 H1 R (match C.T.run k ar with
        | .ok r ar' => .ok r (putBack e1 avs ar')
        | .exc x ar' => .exc x (putBack e1 avs ar')
        | .stuck => .stuck) := q
      cases hr : C.T.run k ar with
      | stuck => rw [hr] at q; exact q.elim
      | ok r ar' =>
        rw [hr] at q
        exact fun v H2 F rv => hQ r _ H2 v (Ge.call E A hm hn F) (q H2 (Ge.call E A hm hn F)) rv
      | exc x ar' =>
        rw [hr] at q
        exact fun cls d H2 F ex => q cls d H2 ex (Ge.call E A hm hn F)
  · rw [if_neg hn] at q
    exact q.elim
theorem callD {σ : Sg} {e1 : Sls} {H1 : Hp} {avs : List AV} {vs : List V} {Q : VK} (E : EnvOk C.K H1 σ e1) (A : AvsOk C.K σ H1 vs avs) (q : fin C W σ e1 H1 (fun d e' H' => ∀ v, Fd C.K H' v d → Q v H') ((callF C.T k avs e1).bind fun r e2 => .ok r.d e2)) :
    spC C k vs H1 (Fz Q) (WE W σ) := by
  refine callEnd E A q.bind fun r e2 H2 v g q2 rv => ?_
  cases r with
  | v d => exact .inl (q2 H2 g v rv)
  | fr c =>
    obtain ⟨a, o, rfl, h0, ha, m⟩ := rv
    refine .inr ⟨a, o, rfl, ha, m.mut, fun ob => ?_⟩
    have kt : KT H2 (upd H2 a (.frz ob o)) := by
      refine ⟨fun b xs h => ?_, fun b o' u h => ?_⟩
      · rw [upd_ne (fun z => by rw [z, ha] at h; cases h; exact m.nfz.1 _ rfl)]; exact h
      · rw [upd_ne (fun z => by rw [z, ha] at h; cases h; exact m.nfz.2 _ _ rfl)]; exact h
    exact q2 _ (g.lock E h0 ha m) _ ((m.kt kt).frz upd_same)
theorem se_call (F : FnAt X.prog X.w X.K X.mg X.base C lv x k) (hgd : X.A.guards = some []) (hr : Room lv X.A) (tk : Takes X W) (hg : Gl X x) (ha : SAs X C W (e0 :: es) ias) {p : Pos}
    (hdb : (x == ("__debug__" : Str)) = false := by decide) (he : starEach (e0 :: es) X.env = (false, eval e0 X.env) :: starEach es X.env := by rfl) (hpl : (backTo pos (starEach es X.env)).any (·.1) = false := by rfl) :
    SE X C W (.Call (.Name x p) (e0 :: es) [] pos) (.call k ias) := by
  obtain ⟨f, fd, ps, hm, hf, hk, G, hb⟩ := F.ex
  refine peImp (peFrz (pe_callG G hgd hr hg hm hk hb tk ha hdb he hpl)) fun σ H Q ⟨e, E, q⟩ => ?_
  simp only [ev] at q
  refine ⟨e, E, q.bind'.mono fun avs e1 H1 g q1 vs A => ?_⟩
  exact callD g.env A q1
end
end Eng

set_option Elab.async false
set_option linter.all false
set_option maxRecDepth 100000
/-! A call of a value that is a def; targets; things walked; roots. -/
namespace Eng
open PySem PySem.Spec L2
section
variable {X : Cx} {C : Ct} {W : WX} {g0 e0 : Expr} {es : List Expr} {ig : IE} {ias : IAs} {pos : Pos} {lv : Nat}
/-- every def of the table stands -/
def AllAt (P : Program) (w : World) (K : PySem.W.Frag) (mg : Str → Option Value) (base : Heap) (C : Ct) (lv : Nat) : Prop := ∀ k, k < C.T.nf → ∃ x, FnAt P w K mg base C lv x k
theorem se_dcall (F : AllAt X.prog X.w X.K X.mg X.base C lv) (hgd : X.A.guards = some []) (hr : Room lv X.A) (tk : Takes X W) (hg : SE X C W g0 ig) (ha : SAs X C W (e0 :: es) ias)
    (hc : eval (.Call g0 (e0 :: es) [] pos) X.env = (do PySem.callWith pos (← eval g0 X.env) [] (backTo pos (starEach (e0 :: es) X.env)) (backToKw pos (keywordEach [] X.env))) := by rfl)
    (he : starEach (e0 :: es) X.env = (false, eval e0 X.env) :: starEach es X.env := by rfl) (hpl : (backTo pos (starEach es X.env)).any (·.1) = false := by rfl) :
    SE X C W (.Call g0 (e0 :: es) [] pos) (.dcall ig ias) := by
  refine ⟨fun pins s σ H Q I ⟨e, E, q⟩ => ?_⟩
  simp only [ev] at q
  refine PyProof.Rows.Call_ (thn (hg.run pins s σ H (fun v H1 => ∃ d e1, Fd C.K H1 v d ∧ EnvOk C.K H1 σ e1 ∧ fin C W σ e1 H1 (fun d e' H' => ∀ v, Fd C.K H' v d → Q v H') (match d with
    | .fn f => if !decide (f < C.T.nf) then .stuck else (eva C.T ias e1).bind fun avs e2 => (callF C.T f avs e2).bind fun r e3 => .ok r.d e3
    | _ => .stuck)) I ⟨e, E, q.bind'.mono fun d e1 H1 g q1 v r => ⟨d, e1, r, g.env, q1⟩⟩) fun u s1 ⟨v, H1, I1, r1, d, e1, rd, E1, q1⟩ => ?_) hc
  cases d with
  | fn k =>
    cases rd with
    | fn j =>
    obtain ⟨hk, q1⟩ := stuckN q1
    obtain ⟨x, Fk⟩ := F k (of_decide_eq_true hk)
    obtain ⟨f, fd, ps, hm, hf, hk, G, hb⟩ := Fk.ex
    have r1 : u = Value.ref (C.K.fa k) := r1
    subst r1
    rw [hf]
    refine PySem.W.callWith_K (h₀ := X.base) I1.ok.mod.kin hk (thn (ha.run pos pins s1 σ H1 (fun vs H2 => spC C k vs H2 (Fz Q) (WE W σ)) I1 ⟨e1, E1, q1.bind'.mono fun avs e2 H2 g q2 vs A => callD g.env A q2⟩) fun us s2 ⟨vs, H2, I2, r, q2⟩ => ⟨I2.kIn, ?_⟩) he hpl
    exact thn (runG G hgd hr hb tk I2 r q2) fun _ _ z => EP.frz z
  | _ => exact q1.elim
end

/-! ### targets -/
theorem wipe_set {σ : Sg} {i : Nat} {x : Option V} : ∀ {vs : List Nat}, i ∈ vs → wipe (σ.set i x) vs = wipe σ vs := by
  have key : ∀ (vs : List Nat), i ∉ vs → wipe (σ.set i x) vs = (wipe σ vs).set i x := by
    intro vs
    induction vs with
    | nil => intro _; rfl
    | cons v vs ih =>
      intro h
      show (wipe (σ.set i x) vs).set v none = ((wipe σ vs).set v none).set i x
      rw [ih fun z => h (List.mem_cons_of_mem _ z), List.set_comm]
      exact fun z => h (by rw [z]; exact List.mem_cons_self)
  intro vs
  induction vs with
  | nil => intro h; cases h
  | cons v vs ih =>
    intro h
    show (wipe (σ.set i x) vs).set v none = (wipe σ vs).set v none
    by_cases hi : i ∈ vs
    · rw [ih hi]
    · have e : i = v := (List.mem_cons.mp h).elim id fun z => absurd z hi
      subst e
      rw [key vs hi, List.set_set]
/-- the values of the slots in own may have turned, no others -/
def OffW (own : List Nat) (σ σ' : Sg) : Prop := ∀ vs, (∀ i ∈ own, i ∈ vs) → wipe σ' vs = wipe σ vs
def rdG (C : Ct) (tg : Tg) : TG := fun v σ H Q => ∃ e d e', EnvOk C.K H σ e ∧ Fd C.K H v d ∧ tg.put d e = some e' ∧ ∀ σ', Go C.K σ e H σ' e' H → OffW tg.slots σ σ' → Q σ' H
def rdGs (C : Ct) (l : List Tg) : TGs := fun vs σ H Q => ∃ e ds e', EnvOk C.K H σ e ∧ Fds C.K H vs ds ∧ Tg.puts l ds e = some e' ∧ ∀ σ', Go C.K σ e H σ' e' H → OffW (Tg.slotss l) σ σ' → Q σ' H
def SG (X : Cx) (C : Ct) (t : Expr) (tg : Tg) : Prop := PG X t (rdG C tg)
def SGs (X : Cx) (C : Ct) (ts : List Expr) (l : List Tg) : Prop := PGs X ts (rdGs C l)
theorem pgImp {X : Cx} {e : Expr} {t t' : TG} (h : PG X e t) (k : ∀ v σ H Q, t' v σ H Q → t v σ H Q) : PG X e t' := ⟨fun pins s σ H v u Q I r q => h.run pins s σ H v u Q I r (k v σ H Q q)⟩
theorem pgsImp {X : Cx} {e : List Expr} {t t' : TGs} (h : PGs X e t) (k : ∀ v σ H Q, t' v σ H Q → t v σ H Q) : PGs X e t' := ⟨fun pins s σ H v u Q I r q => h.run pins s σ H v u Q I r (k v σ H Q q)⟩
theorem putN_some {i : Nat} {d : D} {e e' : Sls} (h : putN i d e = some e') : e' = e.set i (.val d) := by
  unfold putN at h
  split at h
  · cases h
  · exact (Option.some.inj h).symm
  · cases h
section
variable {X : Cx} {C : Ct} {t : Expr} {ts : List Expr} {tg : Tg} {l : List Tg} {pos : Pos}
theorem sg_n (i : Nat) {x : Str} (hN : X.N.Nodup) (hi : X.N[i]? = some x := by rfl) (hx : Loc X.env.scope x := by first | exact Or.inl rfl | exact Or.inr rfl) (hf : X.fn x = true ∨ X.env.scope.names.lookup x = some .local := by first | exact .inl rfl | exact .inr rfl | assumption) :
    SG X C (.Name x pos) (.n i) := pgImp (pg_name (i := i) hN hi hx hf) fun v σ H Q ⟨e, d, e', E, r, hp, q⟩ => by
  have z : e' = e.set i (.val d) := putN_some hp
  subst z
  exact q _ (Go.store E r) fun vs hv => wipe_set (hv i (List.mem_singleton.mpr rfl))
theorem sgs_nil : SGs X C [] [] := pgsImp pgs_nil fun vs σ H Q ⟨e, ds, e', E, r, hp, q⟩ => by
  cases ds with
  | cons d ds => cases hp
  | nil =>
    cases hp
    cases r
    exact ⟨rfl, q σ (Go.refl E) fun _ _ => rfl⟩
theorem sgs_cons (h1 : SG X C t tg) (h2 : SGs X C ts l) (hs : (assignEach (t :: ts) X.env).map (·.2) = assign t X.env :: (assignEach ts X.env).map (·.2) := by rfl) : SGs X C (t :: ts) (tg :: l) :=
  pgsImp (pgs_cons h1 h2 hs) fun vs σ H Q ⟨e, ds, e', E, r, hp, q⟩ => by
    cases ds with
    | nil => cases hp
    | cons d ds =>
      cases r with
      | cons r1 r2 =>
        obtain ⟨e1, h3, h4⟩ := Option.bind_eq_some_iff.mp (show (tg.put d e).bind (fun e' => Tg.puts l ds e') = some e' from hp)
        refine ⟨_, _, rfl, e, d, e1, E, r1, h3, fun σ1 g1 o1 => ⟨e1, ds, e', g1.env, r2, h4, fun σ2 g2 o2 => q σ2 (g1.trans g2) fun vs hv => ?_⟩⟩
        rw [o2 vs fun i hi => hv i (List.mem_append_right _ hi), o1 vs fun i hi => hv i (List.mem_append_left _ hi)]
theorem puts_len : ∀ {l : List Tg} {ds : List D} {e e' : Sls}, Tg.puts l ds e = some e' → ds.length = l.length
  | [], [], _, _, _ => rfl
  | [], _ :: _, _, _, h => by cases h
  | _ :: _, [], _, _, h => by cases h
  | g :: l, d :: ds, e, e', h => by
    obtain ⟨e1, _, h4⟩ := Option.bind_eq_some_iff.mp (show (g.put d e).bind (fun e' => Tg.puts l ds e') = some e' from h)
    simp [puts_len h4]
theorem sg_t {k : Nat} (kk : C.K.k = X.K) (hc : X.calm = true) (h : SGs X C ts l) (hn : (assignEach ts X.env).length = l.length := by rfl) (hst : (assignEach ts X.env).findIdx? (·.1) = none := by rfl) : SG X C (.Tuple ts k pos) (.t l) :=
  pgImp (pg_tup hc h hn hst) fun v σ H Q ⟨e, d, e', E, r, hp, q⟩ => by
    cases d with
    | tup ds =>
      cases r with
      | tup h1 h2 =>
        have hp : Tg.puts l ds e = some e' := hp
        exact ⟨_, _, rfl, kk ▸ h1, by rw [h2.length, puts_len hp], e, ds, e', E, h2, hp, q⟩
    | _ => cases hp
end

/-! ### things walked -/
def ItOk (K : Kx) (J : It) (items : List D) (H0 : Hp) : Prop := ∀ i H, KT H0 H → (i < items.length → J.go i H ∧ ∀ x H', J.yld i H x H' → L2.Same H H' ∧ ∃ d, items[i]? = some d ∧ Fd K H' x d) ∧ (items.length ≤ i → J.stop i H)
def rdI (C : Ct) (W : WX) (ii : II) : TI := fun σ H R => ∃ e, EnvOk C.K H σ e ∧ fin C W σ e H (fun items e' H' => ∀ J, ItOk C.K J items H' → R J H') (evi C.T ii e)
def SI (X : Cx) (C : Ct) (W : WX) (tg it : Expr) (ii : II) : Prop := PI X tg it (rdI C W ii)
theorem piImp {X : Cx} {tg e : Expr} {t t' : TI} (h : PI X tg e t) (k : ∀ σ H R, t' σ H R → t σ H R) : PI X tg e t' := ⟨fun pins s σ H R I q => h.run pins s σ H R I (k σ H R q)⟩
def pItems : List D → Option (List D)
  | [.lst ds] => some ds
  | [.tup ds] => some ds
  | [.str z] => some (z.cps.toList.map fun c => .str ⟨#[c]⟩)
  | _ => none
def pRange1 : List D → Option (List D)
  | [.int j] => if -(2 ^ 62) ≤ j ∧ j < 2 ^ 62 then some ((List.range j.toNat).map fun (i : Nat) => .int (i : Int)) else none
  | _ => none
def pRange2 : List D → Option (List D)
  | [.int i, .int j] => if -(2 ^ 62) ≤ i ∧ i < 2 ^ 62 ∧ -(2 ^ 62) ≤ j ∧ j < 2 ^ 62 then some ((List.range (j - i).toNat).map fun (k : Nat) => .int (i + (k : Int))) else none
  | _ => none
section
variable {X : Cx} {C : Ct} {W : WX} {tg a b : Expr} {ia ib : IE} {pos : Pos}
theorem itl_ok {K : Kx} {H : Hp} {a : Addr} {xs : List V} {ds : List D} (h : FzL K H a xs) (r : Fds K H xs ds) : ItOk K (Itl K.k a) ds H := fun i H' kt => by
  have h' := (h.kt kt)
  have r' := r.kt kt
  refine ⟨fun hi => ⟨?_, fun x H2 ⟨e, y⟩ => ?_⟩, fun hi => ⟨xs, h'.seq, by rw [r.length]; exact hi⟩⟩
  · obtain ⟨v, h1, _⟩ := r'.get (List.getElem?_eq_getElem hi)
    exact ⟨xs, v, h'.seq, h1⟩
  · subst e
    obtain ⟨d, h1, h2⟩ := r'.getV (y xs h'.seq)
    exact ⟨Same.refl _, d, h1, h2⟩
theorem itt_ok {K : Kx} {H : Hp} {a : Addr} {xs : List V} {ds : List D} (h : SqT K.k H a xs) (r : Fds K H xs ds) : ItOk K (Itt K.k a) ds H := fun i H' kt => by
  have h' := (SqT.kt kt h)
  have r' := r.kt kt
  refine ⟨fun hi => ⟨?_, fun x H2 ⟨e, y⟩ => ?_⟩, fun hi => ⟨xs, h', by rw [r.length]; exact hi⟩⟩
  · obtain ⟨v, h1, _⟩ := r'.get (List.getElem?_eq_getElem hi)
    exact ⟨xs, v, h', h1⟩
  · subst e
    obtain ⟨d, h1, h2⟩ := r'.getV (y xs h')
    exact ⟨Same.refl _, d, h1, h2⟩
theorem si_seq (kk : C.K.k = X.K) (ha : SE X C W a ia) : SI X C W tg a (.mk pItems (.cons ia .nil)) := by
  refine ⟨fun pins s σ H R I ⟨e, E, q⟩ => ?_⟩
  simp only [evi, evs, Out.bind_assoc, Out.ok_bind] at q
  refine thn (ha.run pins s σ H (fun v H1 => ∃ d items, Fd C.K H1 v d ∧ pItems [d] = some items ∧ ∀ J, ItOk C.K J items H1 → R J H1) I ⟨e, E, q.bind'.mono fun d e1 H1 g q1 v r => ?_⟩) fun u s1 ⟨v, H1, I1, r1, d, items, rd, hp, hR⟩ => ?_
  · obtain ⟨items, h1, h2⟩ := fin.opt g.env q1
    exact ⟨d, items, r, h1, h2 H1 (Same.refl H1)⟩
  · cases d with
    | lst ds =>
      cases hp
      cases rd with
      | lst h1 h2 =>
        cases r1
        obtain ⟨its, rv, p, hz⟩ := I1.list (kk ▸ h1.seq)
        refine wpAny_pyIter_list p.isList ?_
        refine ⟨s1.heap.objs.size, [s1.heap.objs.size], _, _, H1, rfl, I1.kept (t' := s1.toks) fun b o e => Heap.get?_push_of_some _ e, turn_list _ _, ⟨_, Heap.get?_push_size _ rfl, rfl, rfl⟩, fun b hb => ?_, hR _ (kk ▸ itl_ok h1 h2)⟩
        have e : b = s1.heap.objs.size := by simpa using hb
        subst e
        exact I1.fpOk (Nat.le_refl _) (I1.hok.fresh (Nat.le_refl _))
    | tup ds =>
      cases hp
      cases rd with
      | tup h1 h2 =>
        cases r1
        obtain ⟨its, rv, p, hz⟩ := I1.tuple (kk ▸ h1)
        refine wpAny_pyIter_tuple (show s1.heap.IsTuple _ its.toArray from p) ?_
        refine ⟨s1.heap.objs.size, [s1.heap.objs.size], _, _, H1, rfl, I1.kept (t' := s1.toks) fun b o e => Heap.get?_push_of_some _ e, turn_tuple _ _, ⟨_, Heap.get?_push_size _ rfl, rfl, rfl⟩, fun b hb => ?_, hR _ (kk ▸ itt_ok h1 h2)⟩
        have e : b = s1.heap.objs.size := by simpa using hb
        subst e
        exact I1.fpOk (Nat.le_refl _) (I1.hok.fresh (Nat.le_refl _))
    | str z =>
      cases hp
      cases rd
      obtain ⟨t, rfl⟩ := r1
      have ok : ItOk C.K (Its z) (z.cps.toList.map fun c => .str ⟨#[c]⟩) H1 := fun i H' kt => by
        refine ⟨fun hi => ⟨?_, fun x H2 ⟨e, c, hc, hx⟩ => ?_⟩, fun hi => ?_⟩
        · show i < z.cps.size
          simpa using hi
        · subst e
          subst hx
          refine ⟨Same.refl _, _, ?_, .str _⟩
          rw [List.getElem?_map, Array.getElem?_toList, hc]
          rfl
        · show z.cps.size ≤ i
          simpa using hi
      cases ha : z.cps.all (· < 128)
      · exact wpAny_pyIter_wide ha (pi_one (tk := s1.toks) I1 _ (turn_str _ z t "str_iterator" (.inr rfl)) ⟨_, Heap.get?_push_size _ rfl, rfl, rfl⟩ (hR _ ok))
      · exact wpAny_pyIter_ascii ha (pi_one (tk := s1.toks) I1 _ (turn_str _ z t "str_ascii_iterator" (.inl rfl)) ⟨_, Heap.get?_push_size _ rfl, rfl, rfl⟩ (hR _ ok))
    | _ => cases hp
theorem itr_ok {K : Kx} {H : Hp} {lo : Int} {n : Nat} : ItOk K (Itr lo n) ((List.range n).map fun (k : Nat) => .int (lo + (k : Int))) H := fun i H' kt => by
  refine ⟨fun hi => ⟨by simpa [Itr] using hi, fun x H2 ⟨e, hx⟩ => ?_⟩, fun hi => by simpa [Itr] using hi⟩
  subst e
  subst hx
  refine ⟨Same.refl _, _, ?_, .int _⟩
  have hi' : i < n := by simpa using hi
  rw [List.getElem?_map, List.getElem?_range hi']
  rfl
theorem si_range1 {p : Pos} (hg : Gl X "range") (hm : X.mg "range" = none) (ha : SE X C W a ia) (hs : starEach [a] X.env = [(false, eval a X.env)] := by rfl) : SI X C W tg (.Call (.Name "range" p) [a] [] pos) (.mk pRange1 (.cons ia .nil)) :=
  piImp (pi_range1 hg hm (pa_cons ha pa_nil hs) hs) fun σ H R ⟨e, E, q⟩ => by
    simp only [evi, evs, Out.bind_assoc, Out.ok_bind] at q
    refine ⟨e, E, q.bind'.mono fun d e1 H1 g q1 v r => ?_⟩
    obtain ⟨items, h1, h2⟩ := fin.opt g.env q1
    unfold pRange1 at h1
    split at h1
    · split at h1
      · rename_i hj
        cases h1
        rename_i hd
        cases hd
        cases r
        refine ⟨_, rfl, hj.1, hj.2, h2 H1 (Same.refl _) _ ?_⟩
        have z := itr_ok (K := C.K) (H := H1) (lo := 0) (n := (‹Int›).toNat)
        simpa using z
      · cases h1
    · cases h1
theorem si_range2 {p : Pos} (hg : Gl X "range") (hm : X.mg "range" = none) (ha : SE X C W a ia) (hb : SE X C W b ib) (hs : starEach [a, b] X.env = [(false, eval a X.env), (false, eval b X.env)] := by rfl) (hs2 : starEach [b] X.env = [(false, eval b X.env)] := by rfl) : SI X C W tg (.Call (.Name "range" p) [a, b] [] pos) (.mk pRange2 (.cons ia (.cons ib .nil))) :=
  piImp (pi_range2 hg hm (pa_cons ha (pa_cons hb pa_nil hs2) (by rw [hs, hs2])) hs hs2) fun σ H R ⟨e, E, q⟩ => by
    simp only [evi, evs, Out.bind_assoc, Out.ok_bind] at q
    refine ⟨e, E, q.bind'.mono fun d e1 H1 g q1 v r => ⟨e1, g.env, q1.bind'.mono fun d2 e2 H2 g2 q2 v2 r2 => ?_⟩⟩
    obtain ⟨items, h1, h2⟩ := fin.opt g2.env q2
    have r' := r.kt (g2.kt g.env)
    unfold pRange2 at h1
    split at h1
    · split at h1
      · rename_i hj
        cases h1
        rename_i hd
        cases hd
        cases r'
        cases r2
        exact ⟨_, _, rfl, hj, h2 H2 (Same.refl _) _ itr_ok⟩
      · cases h1
    · cases h1
end
end Eng

set_option Elab.async false
set_option linter.all false
set_option maxRecDepth 100000
/-! List comprehensions. -/
namespace Eng
open PySem PySem.Spec L2

/-! ### wiped slots -/
theorem wipe_get {σ : Sg} {i : Nat} : ∀ {vs : List Nat}, (wipe σ vs)[i]? = if i ∈ vs then (σ[i]?).map (fun _ => none) else σ[i]?
  | [] => by simp [wipe]
  | v :: vs => by
    show ((wipe σ vs).set v none)[i]? = _
    by_cases h : v = i
    · subst h
      rw [List.getElem?_set, if_pos rfl]
      simp only [List.mem_cons, true_or, if_true, wipe_length]
      by_cases hl : v < σ.length
      · rw [if_pos hl, List.getElem?_eq_getElem hl]; rfl
      · rw [if_neg hl, List.getElem?_eq_none (by omega)]; rfl
    · rw [List.getElem?_set_ne h, wipe_get (vs := vs)]
      have : (i ∈ v :: vs) ↔ i ∈ vs := ⟨fun z => (List.mem_cons.mp z).elim (fun q => absurd q.symm h) id, List.mem_cons_of_mem _⟩
      simp only [this]
theorem wipeS_length {e : Sls} : ∀ {vs : List Nat}, (wipeS e vs).length = e.length
  | [] => rfl
  | v :: vs => by
    show ((wipeS e vs).set v .un).length = _
    rw [List.length_set, wipeS_length]
theorem wipeS_get {e : Sls} {i : Nat} : ∀ {vs : List Nat}, (wipeS e vs)[i]? = if i ∈ vs then (e[i]?).map (fun _ => Slo.un) else e[i]?
  | [] => by simp [wipeS]
  | v :: vs => by
    show ((wipeS e vs).set v .un)[i]? = _
    by_cases h : v = i
    · subst h
      rw [List.getElem?_set, if_pos rfl]
      simp only [List.mem_cons, true_or, if_true, wipeS_length]
      by_cases hl : v < e.length
      · rw [if_pos hl, List.getElem?_eq_getElem hl]; rfl
      · rw [if_neg hl, List.getElem?_eq_none (by omega)]; rfl
    · rw [List.getElem?_set_ne h, wipeS_get (vs := vs)]
      have : (i ∈ v :: vs) ↔ i ∈ vs := ⟨fun z => (List.mem_cons.mp z).elim (fun q => absurd q.symm h) id, List.mem_cons_of_mem _⟩
      simp only [this]
theorem backS_length {e0 e : Sls} : ∀ {vs : List Nat}, (backS e0 e vs).length = e.length
  | [] => rfl
  | v :: vs => by
    unfold backS
    split
    · rw [List.length_set, backS_length]
    · exact backS_length
theorem backS_get {e0 e : Sls} {i : Nat} (hl : e0.length = e.length) : ∀ {vs : List Nat}, (backS e0 e vs)[i]? = if i ∈ vs then e0[i]? else e[i]?
  | [] => by simp [backS]
  | v :: vs => by
    have this : v ≠ i → ((i ∈ v :: vs) ↔ i ∈ vs) := fun h => ⟨fun z => (List.mem_cons.mp z).elim (fun q => absurd q.symm h) id, List.mem_cons_of_mem _⟩
    unfold backS
    cases h0 : e0[v]? with
    | none =>
      show (backS e0 e vs)[i]? = _
      rw [backS_get hl (vs := vs)]
      by_cases h : v = i
      · subst h
        have h2 : e[v]? = none := by
          rw [List.getElem?_eq_none_iff] at h0 ⊢
          omega
        simp [h0, h2]
      · simp only [this h]
    | some s =>
      show ((backS e0 e vs).set v s)[i]? = _
      by_cases h : v = i
      · subst h
        have h1 := (List.getElem?_eq_some_iff.mp h0).1
        rw [List.getElem?_set_self (by rw [backS_length]; omega)]
        simp [h0]
      · rw [List.getElem?_set_ne h, backS_get hl (vs := vs)]
        simp only [this h]
theorem wipe_wipe {σ : Sg} {vs : List Nat} : wipe (wipe σ vs) vs = wipe σ vs := by
  apply List.ext_getElem?
  intro i
  rw [wipe_get, wipe_get]
  by_cases h : i ∈ vs
  · simp only [h, if_true, Option.map_map]; rfl
  · simp only [h, if_false]
theorem wipeS_wipeS {e : Sls} {vs : List Nat} : wipeS (wipeS e vs) vs = wipeS e vs := by
  apply List.ext_getElem?
  intro i
  rw [wipeS_get, wipeS_get]
  by_cases h : i ∈ vs
  · simp only [h, if_true, Option.map_map]; rfl
  · simp only [h, if_false]

/-! ### what a target leaves -/
theorem putN_get {i j : Nat} {d : D} {e e' : Sls} (h : putN i d e = some e') : e'.length = e.length ∧ (j ≠ i → e'[j]? = e[j]?) ∧ ∀ p c, e'[j]? = some (.mt p c) → e[j]? = some (.mt p c) := by
  have z := putN_some h
  subst z
  refine ⟨by simp, fun hj => by rw [List.getElem?_set_ne (Ne.symm hj)], fun p c h => (set_mt (fun _ _ z => by cases z) h).2⟩
mutual
theorem put_get {j : Nat} : ∀ {tg : Tg} {d : D} {e e' : Sls}, tg.put d e = some e' → e'.length = e.length ∧ (j ∉ tg.slots → e'[j]? = e[j]?) ∧ ∀ p c, e'[j]? = some (.mt p c) → e[j]? = some (.mt p c)
  | .n i, d, e, e', h => by
    obtain ⟨h1, h2, h3⟩ := putN_get (j := j) (show putN i d e = some e' from h)
    exact ⟨h1, fun z => h2 fun q => z (by rw [q]; exact List.mem_singleton.mpr rfl), h3⟩
  | .t l, .tup ds, e, e', h => puts_get (l := l) (show Tg.puts l ds e = some e' from h)
  | .t l, .non, e, e', h => by cases h
  | .t l, .bl _, e, e', h => by cases h
  | .t l, .int _, e, e', h => by cases h
  | .t l, .str _, e, e', h => by cases h
  | .t l, .lst _, e, e', h => by cases h
  | .t l, .dct _ _, e, e', h => by cases h
  | .t l, .fn _, e, e', h => by cases h
theorem puts_get {j : Nat} : ∀ {l : List Tg} {ds : List D} {e e' : Sls}, Tg.puts l ds e = some e' → e'.length = e.length ∧ (j ∉ Tg.slotss l → e'[j]? = e[j]?) ∧ ∀ p c, e'[j]? = some (.mt p c) → e[j]? = some (.mt p c)
  | [], [], e, e', h => by cases h; exact ⟨rfl, fun _ => rfl, fun _ _ z => z⟩
  | [], _ :: _, e, e', h => by cases h
  | _ :: _, [], e, e', h => by cases h
  | g :: l, d :: ds, e, e', h => by
    obtain ⟨e1, h1, h2⟩ := Option.bind_eq_some_iff.mp (show (g.put d e).bind (fun e' => Tg.puts l ds e') = some e' from h)
    obtain ⟨a1, a2, a3⟩ := put_get (j := j) h1
    obtain ⟨b1, b2, b3⟩ := puts_get (j := j) h2
    exact ⟨b1.trans a1, fun z => (b2 fun q => z (List.mem_append_right _ q)).trans (a2 fun q => z (List.mem_append_left _ q)), fun p c z => a3 p c (b3 p c z)⟩
end
theorem put_wipe {tg : Tg} {d : D} {e e' : Sls} {own : List Nat} (h : tg.put d e = some e') (ho : ∀ i ∈ tg.slots, i ∈ own) : wipeS e' own = wipeS e own := by
  apply List.ext_getElem?
  intro j
  obtain ⟨h1, h2, _⟩ := put_get (j := j) h
  rw [wipeS_get, wipeS_get]
  by_cases hj : j ∈ own
  · simp only [hj, if_true]
    by_cases hl : j < e.length
    · rw [List.getElem?_eq_getElem hl, List.getElem?_eq_getElem (by omega)]; rfl
    · rw [List.getElem?_eq_none (by omega), List.getElem?_eq_none (by omega)]
  · simp only [hj, if_false]
    exact h2 fun z => hj (ho j z)

section
variable {K : Kx} {σ : Sg} {H H' : Hp} {e e' : Sls} {own : List Nat}
theorem wipe_mw {b : Addr} (m : Mw (wipe σ own) (wipeS e own) b) : Mw σ e b := by
  obtain ⟨i, h1, p, c, h2⟩ := m
  rw [wipe_get] at h1
  rw [wipeS_get] at h2
  by_cases h : i ∈ own
  · simp only [h, if_true] at h2
    cases q : e[i]? with
    | none => rw [q] at h2; cases h2
    | some s => rw [q] at h2; cases h2
  · simp only [h, if_false] at h1 h2
    exact ⟨i, h1, p, c, h2⟩
theorem wipeS_mt {i : Nat} {p : Bool} {c : MC} (h2 : (wipeS e own)[i]? = some (Slo.mt p c)) : i ∉ own ∧ e[i]? = some (Slo.mt p c) := by
  rw [wipeS_get] at h2
  by_cases h : i ∈ own
  · simp only [h, if_true] at h2
    cases q : e[i]? with
    | none => rw [q] at h2; cases h2
    | some s => rw [q] at h2; cases h2
  · simp only [h, if_false] at h2
    exact ⟨h, h2⟩
theorem mw_wipe {b : Addr} (hn : ∀ (i : Nat) (p : Bool) (c : MC), i ∈ own → e[i]? ≠ some (Slo.mt p c)) (m : Mw σ e b) : Mw (wipe σ own) (wipeS e own) b := by
  obtain ⟨i, h1, p, c, h2⟩ := m
  have h : i ∉ own := fun z => hn i p c z h2
  exact ⟨i, by rw [wipe_get, if_neg h]; exact h1, p, c, by rw [wipeS_get, if_neg h]; exact h2⟩
theorem EnvOk.wipe (E : EnvOk K H σ e) : EnvOk K H (wipe σ own) (wipeS e own) := by
  refine ⟨by rw [wipe_length, wipeS_length]; exact E.len, fun i d h => ?_, fun i p c h => ?_, fun i j a ⟨h1, p, c, h2⟩ ⟨h3, p', c', h4⟩ => ?_, E.fix⟩
  · rw [wipeS_get] at h
    by_cases hi : i ∈ own
    · simp only [hi, if_true] at h
      cases q : e[i]? with
      | none => rw [q] at h; cases h
      | some s => rw [q] at h; cases h
    · simp only [hi, if_false] at h
      rw [wipe_get, if_neg hi]
      exact E.val i d h
  · obtain ⟨hi, h⟩ := wipeS_mt h
    rw [wipe_get, if_neg hi]
    exact E.mt i p c h
  · obtain ⟨hi, h2⟩ := wipeS_mt h2
    obtain ⟨hj, h4⟩ := wipeS_mt h4
    rw [wipe_get, if_neg hi] at h1
    rw [wipe_get, if_neg hj] at h3
    exact E.inj i j a ⟨h1, _, _, h2⟩ ⟨h3, _, _, h4⟩
theorem Ge.wipe (g : Ge K σ e H e' H') (hn : ∀ (i : Nat) (p : Bool) (c : MC), i ∈ own → e[i]? ≠ some (Slo.mt p c)) : Ge K (L2.wipe σ own) (wipeS e own) H (wipeS e' own) H' := by
  refine ⟨g.env.wipe, fun b o h n => g.keep b o h fun m => n (mw_wipe hn m), fun i p c h => ?_, fun b m => g.there b (wipe_mw m)⟩
  obtain ⟨hi, h⟩ := wipeS_mt h
  obtain ⟨c', h1, h2⟩ := g.mu i p c h
  exact ⟨c', by rw [wipeS_get, if_neg hi]; exact h1, h2⟩
theorem ownOk_at : ∀ {own : List Nat}, ownOk e own = true → ∀ (i : Nat) (p : Bool) (c : MC), i ∈ own → e[i]? ≠ some (Slo.mt p c)
  | [], _, i, p, c, h => by cases h
  | v :: vs, h, i, p, c, hi => by
    unfold ownOk at h
    rw [Bool.and_eq_true] at h
    rcases List.mem_cons.mp hi with rfl | hi
    · intro z
      rw [z] at h
      exact absurd h.1 Bool.false_ne_true
    · exact ownOk_at h.2 i p c hi
theorem Ge.unwipe (E : EnvOk K H σ e) (hn : ∀ (i : Nat) (p : Bool) (c : MC), i ∈ own → e[i]? ≠ some (Slo.mt p c)) (g : Ge K (L2.wipe σ own) (wipeS e own) H (wipeS e' own) H') : Ge K σ e H (backS e e' own) H' := by
  have hl : e.length = e'.length := by
    have := g.env.len
    rw [wipe_length, wipeS_length, E.len] at this
    exact this
  have kt : KT H H' := (E.wipe (own := own)).keepKT g.keep
  have mtB : ∀ (i : Nat) (p : Bool) (c : MC), (backS e e' own)[i]? = some (Slo.mt p c) → i ∉ own ∧ e'[i]? = some (Slo.mt p c) := fun i p c h => by
    rw [backS_get hl] at h
    by_cases hi : i ∈ own
    · rw [if_pos hi] at h
      exact absurd h (hn i p c hi)
    · rw [if_neg hi] at h
      exact ⟨hi, h⟩
  have wS : ∀ (i : Nat) (s : Slo), i ∉ own → e'[i]? = some s → (wipeS e' own)[i]? = some s := fun i s hi h => by rw [wipeS_get, if_neg hi]; exact h
  refine ⟨⟨by rw [backS_length, ← hl]; exact E.len, fun i d h => ?_, fun i p c h => ?_, fun i j a ⟨h1, p, c, h2⟩ ⟨h3, p', c', h4⟩ => ?_, g.env.fix⟩, fun b o h n => g.keep b o h fun m => n (wipe_mw m), fun i p c h => ?_, fun b m => g.there b (mw_wipe hn m)⟩
  · rw [backS_get hl] at h
    by_cases hi : i ∈ own
    · rw [if_pos hi] at h
      obtain ⟨v, h1, h2⟩ := E.val i d h
      exact ⟨v, h1, h2.kt kt⟩
    · rw [if_neg hi] at h
      have q := g.env.val i d (wS i _ hi h)
      rw [wipe_get, if_neg hi] at q
      exact q
  · obtain ⟨hi, h⟩ := mtB i p c h
    have q := g.env.mt i p c (wS i _ hi h)
    rw [wipe_get, if_neg hi] at q
    exact q
  · obtain ⟨hi, h2⟩ := mtB i p c h2
    obtain ⟨hj, h4⟩ := mtB j p' c' h4
    exact g.env.inj i j a ⟨by rw [wipe_get, if_neg hi]; exact h1, _, _, wS i _ hi h2⟩ ⟨by rw [wipe_get, if_neg hj]; exact h3, _, _, wS j _ hj h4⟩
  · obtain ⟨hi, h⟩ := mtB i p c h
    obtain ⟨c', h1, h2⟩ := g.mu i p c (wS i _ hi h)
    exact ⟨c', (wipeS_mt h1).2, h2⟩
/-- a fresh thing is written -/
theorem Ge.fre (E : EnvOk K H σ e) (g : Ge K σ e H e' H') {a : Addr} {o o' : HO} {c : MC} (h0 : ¬ Mw σ e a) (h1 : H a = none) (ha : H' a = some o) (m : McOk K H' o c) : KT H' (upd H' a o') ∧ Ge K σ e H e' (upd H' a o') := by
  have kt : KT H' (upd H' a o') := by
    refine ⟨fun b xs h => ?_, fun b o' u h => ?_⟩
    · rw [upd_ne (fun z => by rw [z, ha] at h; cases h; exact m.nfz.1 _ rfl)]; exact h
    · rw [upd_ne (fun z => by rw [z, ha] at h; cases h; exact m.nfz.2 _ _ rfl)]; exact h
  have nm : ¬ Mw σ e' a := fun z => h0 (g.muS z)
  have ne : ∀ b o, H b = some o → b ≠ a := fun b o h z => by rw [z, h1] at h; cases h
  refine ⟨kt, ⟨g.env.len, fun i d h => ?_, fun i p c h => ?_, g.env.inj, fun b fs h => ?_⟩, fun b o' h n => ?_, g.mu, fun b m' => ?_⟩
  · obtain ⟨v, h1, h2⟩ := g.env.val i d h
    exact ⟨v, h1, h2.kt kt⟩
  · obtain ⟨a', o', h1, h2, h3⟩ := g.env.mt i p c h
    have : a' ≠ a := fun z => nm ⟨i, by rw [← z]; exact h1, _, _, h⟩
    exact ⟨a', o', h1, by rw [upd_ne this]; exact h2, h3.kt kt⟩
  · have q := g.env.fix b fs h
    rw [upd_ne (fun z => by rw [z, ha] at q; cases q; exact m.nxd _ rfl)]
    exact q
  · rw [upd_ne (ne b o' h)]
    exact g.keep b o' h n
  · obtain ⟨o', h⟩ := g.there b m'
    by_cases z : b = a
    · exact ⟨_, by rw [z]; exact upd_same⟩
    · exact ⟨o', by rw [upd_ne z]; exact h⟩
end

/-! ### the rule -/
/-- no exception is let out -/
abbrev WF : WX := fun _ _ _ _ => False
def STs (X : Cx) (C : Ct) (W : WX) (ifs : List Expr) (t : IE) : Prop := PTs X ifs (rdB C W t)
theorem sts_nil {X : Cx} {C : Ct} {W : WX} : STs X C W [] (.c (.bl true)) := ⟨fun pins s σ H Q I ⟨e, E, q⟩ => by
  simp only [ev] at q
  obtain ⟨k, ek, qk⟩ := fin.okE E q
  cases ek
  exact pts_nil.run pins s σ H Q I qk⟩
theorem sts_one {X : Cx} {C : Ct} {W : WX} {c : Expr} {ic : IE} (h : SB X C W c ic) : STs X C W [c] ic := pts_one h
theorem bindOk {α β : Type} {o : Out α} {k : α → Sls → Out β} {b : β} {e : Sls} (h : o.bind k = .ok b e) : ∃ a e1, o = .ok a e1 ∧ k a e1 = .ok b e := by
  cases o with
  | ok a e1 => exact ⟨a, e1, rfl, h⟩
  | exc x e1 => cases h
  | stuck => cases h
theorem noxOk {α : Type} {C : Ct} {W : WX} {σ : Sg} {e : Sls} {H : Hp} {β : Type} {R : β → Sls → Hp → Prop} {o : Out α} {k : α → Sls → Out β} (q : fin C W σ e H R (o.nox.bind k)) : ∃ a e1, o = .ok a e1 ∧ fin C W σ e H R (k a e1) := by
  cases o with
  | ok a e1 => exact ⟨a, e1, rfl, q⟩
  | exc x e1 => exact q.elim
  | stuck => exact q.elim
abbrev compBody (C : Ct) (own : List Nat) (tg : Tg) (t elt : IE) : D → Sls → Out (Option D) := cBody tg.put own (fun e => ev C.T t e) (fun e => ev C.T elt e)
theorem compRd {C : Ct} {W : WX} {own : List Nat} {tg : Tg} {it : II} {t elt : IE} {σ : Sg} {H : Hp} {e : Sls} {R : D → Sls → Hp → Prop} {Q : VK} (ho : ∀ i ∈ tg.slots, i ∈ own) (E : EnvOk C.K H σ e) (q : fin C W σ e H R (ev C.T (.comp own tg it t elt) e))
    (hQ : ∀ (a : Addr) xs ds e1 H1 e' H', Ge C.K σ e H e1 H1 → H1 a = none → H' a = some (.lst xs) → Fds C.K H' xs ds → Ge C.K σ e1 H1 e' H' → (∀ H2, Ge C.K σ e1 H1 e' H2 → R (.lst ds) e' H2) → Q (.ref a) H') :
    tLc (rdI C W it) (rdG C tg) (rdB C WF t) (rdE C WF elt) own σ H Q := by
  have q : fin C W σ e H R ((evi C.T it e).bind fun items e1 => if !(ownOk e1 own && decide (items.length ≤ 16777216)) then .stuck else (evComp (compBody C own tg t elt) items [] e1).nox.bind fun ds e2 => .ok (.lst ds) (backS e1 e2 own)) := by
    simpa only [ev] using q
  refine ⟨e, E, q.bind'.mono fun items e1 H1 g1 q1 J ok D hD => ?_⟩
  obtain ⟨hown, q1⟩ := stuckN q1
  rw [Bool.and_eq_true, decide_eq_true_eq] at hown
  obtain ⟨hown, hlen⟩ := hown
  obtain ⟨ds, e2, hc, q2⟩ := noxOk q1
  have hn := ownOk_at hown
  have hHD : H D = none := g1.fresh hD
  have nMw : ¬ Mw σ e1 D := fun m => by
    obtain ⟨o, c, z, _⟩ := g1.env.mu m
    rw [hD] at z
    cases z
  have nMw' : ¬ Mw (L2.wipe σ own) (wipeS e1 own) D := fun m => nMw (wipe_mw m)
  have E1w := g1.env.wipe (own := own)
  refine ⟨fun i m Hc => m = items.length - i ∧ i ≤ items.length ∧ ∃ ec acc accV, acc.length ≤ i ∧ Hc D = some (.lst accV) ∧ Fds C.K Hc accV acc ∧ Ge C.K (L2.wipe σ own) (wipeS e1 own) H1 (wipeS ec own) Hc ∧ evComp (compBody C own tg t elt) (items.drop i) acc ec = .ok ds e2,
    ⟨items.length, by simp, Nat.zero_le _, e1, [], [], Nat.le_refl _, upd_same, .nil, Ge.same E1w (upd_sameH hD), by simpa using hc⟩, ?_⟩
  rintro i m Hc ⟨rfl, hi, ec, acc, accV, hal, hDc, hacc, gc, hev⟩
  have ktc : KT H1 Hc := E1w.keepKT gc.keep
  obtain ⟨ok1, ok2⟩ := ok i Hc ktc
  by_cases hlt : i < items.length
  · right
    obtain ⟨go, yl⟩ := ok1 hlt
    refine ⟨go, fun H' => i + 1 ≤ items.length ∧ ∃ ec acc accV, acc.length ≤ i + 1 ∧ H' D = some (.lst accV) ∧ Fds C.K H' accV acc ∧ Ge C.K (L2.wipe σ own) (wipeS e1 own) H1 (wipeS ec own) H' ∧ evComp (compBody C own tg t elt) (items.drop (i + 1)) acc ec = .ok ds e2,
      fun H' z => ⟨items.length - (i + 1), by omega, rfl, z⟩, fun x H' y => ?_⟩
    obtain ⟨sm, d, hd, rd⟩ := yl x H' y
    have hdrop : items.drop i = d :: items.drop (i + 1) := by
      rw [List.drop_eq_getElem_cons hlt]
      rw [List.getElem?_eq_getElem hlt] at hd
      cases hd
      rfl
    rw [hdrop] at hev
    obtain ⟨o, e3, hb, hrest⟩ := bindOk (show (compBody C own tg t elt d ec).bind (fun o e' => evComp (compBody C own tg t elt) (items.drop (i + 1)) (match o with | some d => acc ++ [d] | none => acc) e') = .ok ds e2 from hev)
    unfold compBody cBody at hb
    cases hp : tg.put d (wipeS ec own) with
    | none => rw [hp] at hb; cases hb
    | some e4 =>
      rw [hp] at hb
      obtain ⟨b, e5, ht, hb2⟩ := bindOk hb
      have ht : ev C.T t e4 = .ok b e5 := ht
      have gc' : Ge C.K (L2.wipe σ own) (wipeS e1 own) H1 (wipeS ec own) H' := gc.trans (Ge.same gc.env sm)
      have hDH' : H' D = some (.lst accV) := sm _ _ hDc
      have kt' := KT.same sm
      refine ⟨wipeS ec own, d, e4, gc'.env, rd, hp, fun σ2 gp offw => ⟨?_, ?_⟩⟩
      · rw [offw own ho, wipe_wipe]
      have e4n : ∀ (j : Nat) (p : Bool) (c : MC), j ∈ own → e4[j]? ≠ some (Slo.mt p c) := fun j p c hj z => by
        have := (put_get (j := j) hp).2.2 p c z
        exact (wipeS_mt this).1 hj
      have e4w : wipeS e4 own = wipeS ec own := by rw [put_wipe hp ho, wipeS_wipeS]
      have σ2w : L2.wipe σ2 own = L2.wipe σ own := by rw [offw own ho, wipe_wipe]
      have nM4 : ¬ Mw σ2 e4 D := fun m => by
        have m' := mw_wipe e4n m
        rw [e4w, σ2w] at m'
        exact nMw' (gc'.muS m')
      refine ⟨e4, gp.env, ?_⟩
      rw [ht]
      intro H5 g5
      -- a turn's end without the element
      have back : ∀ {e6 : Sls} {H6 : Hp}, Ge C.K σ2 e4 H' e6 H6 → Ge C.K (L2.wipe σ own) (wipeS e1 own) H1 (wipeS e6 own) H6 := fun {e6 H6} g6 => by
        have z := g6.wipe e4n
        rw [e4w, σ2w] at z
        exact gc'.trans z
      cases b with
      | bl k =>
        refine ⟨k, rfl, ?_⟩
        cases k with
        | false =>
          simp only [Bool.false_eq_true, if_false] at hb2 ⊢
          cases hb2
          refine ⟨hlt, _, acc, accV, by omega, g5.keep _ _ hDH' nM4, (hacc.kt kt').kt (g5.kt gp.env), back g5, hrest⟩
        | true =>
          simp only [if_true] at hb2 ⊢
          obtain ⟨dd, e6, he, hb3⟩ := bindOk hb2
          have he : ev C.T elt e5 = .ok dd e6 := he
          cases hb3
          refine ⟨e5, g5.env, ?_⟩
          rw [he]
          intro H6 g6 y ry
          have g56 := g5.trans g6
          have hD6 : H6 D = some (.lst accV) := g56.keep _ _ hDH' nM4
          have hacc6 := (hacc.kt kt').kt (g56.kt gp.env)
          obtain ⟨kt7, g7⟩ := Ge.fre (o' := .lst (accV ++ [y])) (c := .lst acc) E1w (back g56) nMw' hD hD6 hacc6
          refine ⟨accV, hD6, ?_, hlt, _, acc ++ [dd], accV ++ [y], by rw [List.length_append]; show acc.length + 1 ≤ _; omega, upd_same, (hacc6.kt kt7).append (.cons (ry.kt kt7) .nil), g7, hrest⟩
          rw [hacc6.length, sz_eq]
          omega
      | _ => cases hb2
  · left
    have hi' : i = items.length := by omega
    subst hi'
    rw [List.drop_length] at hev
    cases hev
    refine ⟨ok2 (Nat.le_refl _), ?_⟩
    have gu := Ge.unwipe g1.env hn gc
    exact hQ D accV _ e1 H1 _ Hc g1 hD hDc hacc gu q2
section
variable {X : Cx} {C : Ct} {W : WX} {own : List (Str × Nat)} {elt tge iter : Expr} {ifs : List Expr} {scope : Scope} {pos : Pos} {tg : Tg} {it : II} {t ie : IE}
theorem se_comp (hc : X.calm = true) (hN : X.N.Nodup) (hi : SI X C W tge iter it) (ok : BlkOk X.N X.env.scope scope own)
    (hg : ∀ (s : Shared) (H : Hp) (Cc : Addr) (cl : List (Str × Addr)) (fp : List Addr), SG (X.blk s H scope (compEnvC scope cl Cc X.env) fp) C tge tg) (ht : ∀ (s : Shared) (H : Hp) (Cc : Addr) (cl : List (Str × Addr)) (fp : List Addr), STs (X.blk s H scope (compEnvC scope cl Cc X.env) fp) C WF ifs t)
    (he : ∀ (s : Shared) (H : Hp) (Cc : Addr) (cl : List (Str × Addr)) (fp : List Addr), SE (X.blk s H scope (compEnvC scope cl Cc X.env) fp) C WF elt ie) (ho : ∀ i ∈ tg.slots, i ∈ own.map (·.2) := by decide) (hs : ∀ x, foldedSetIterable iter X.env x = pure x := by intro _; rfl) :
    SE X C W (.ListComp elt [⟨tge, iter, ifs, 0⟩] scope pos) (.comp (own.map (·.2)) tg it t ie) :=
  peImp (peFrz (pe_lc hc hN hi ok hg ht he hs)) fun σ H Q ⟨e, E, q⟩ => compRd ho E q fun a xs ds e1 H1 e' H' g1 h1 ha r g k => .inr ⟨a, _, rfl, ha, trivial, fun o => by
    have m : McOk C.K H' (.lst xs) (.lst ds) := r
    obtain ⟨kt, _⟩ := Ge.fre (o' := .frz o (.lst xs)) g1.env g (g1.env.freeI h1) h1 ha m
    exact k _ (g.lock g1.env h1 ha m) _ ((m.kt kt).frz upd_same)⟩
end

/-! ### roots -/
def RvR (K : Kx) (σ : Sg) (e : Sls) (H : Hp) (e' : Sls) (H' : Hp) (v : V) : RV → Prop
  | .v d => Fd K H' v d
  | .fr c => ∃ a o, v = .ref a ∧ (H a = none ∨ Mp false σ e a) ∧ H' a = some o ∧ McOk K H' o c ∧ ¬ Mw σ e' a
def rdR (C : Ct) (W : WX) (ir : IR) : TE := fun σ H Q => ∃ e, EnvOk C.K H σ e ∧ fin C W σ e H (fun r e' H' => ∀ v, RvR C.K σ e H e' H' v r → Q v H') (evr C.T ir e)
def SR (X : Cx) (C : Ct) (W : WX) (e : Expr) (ir : IR) : Prop := PE X e (rdR C W ir)
section
variable {X : Cx} {C : Ct} {W : WX} {own : List (Str × Nat)} {elt tge iter a b e0 : Expr} {ia ib : IE} {es : List Expr} {ies : IEs} {ias : IAs} {ifs : List Expr} {scope : Scope} {pos : Pos} {tg : Tg} {it : II} {t ie : IE} {lv k : Nat} {x : Str}
theorem sr_val (h : SE X C W a ia) : SR X C W a (.val ia) := peImp h fun σ H Q ⟨e, E, q⟩ => ⟨e, E, by
  have q : fin C W σ e H _ ((ev C.T ia e).bind fun d e1 => .ok (RV.v d) e1) := q
  exact q.bind'.mono fun d e1 H1 g q1 v r => (fin.okE g.env q1) v r⟩
theorem sr_comp (hc : X.calm = true) (hN : X.N.Nodup) (hi : SI X C W tge iter it) (ok : BlkOk X.N X.env.scope scope own)
    (hg : ∀ (s : Shared) (H : Hp) (Cc : Addr) (cl : List (Str × Addr)) (fp : List Addr), SG (X.blk s H scope (compEnvC scope cl Cc X.env) fp) C tge tg) (ht : ∀ (s : Shared) (H : Hp) (Cc : Addr) (cl : List (Str × Addr)) (fp : List Addr), STs (X.blk s H scope (compEnvC scope cl Cc X.env) fp) C WF ifs t)
    (he : ∀ (s : Shared) (H : Hp) (Cc : Addr) (cl : List (Str × Addr)) (fp : List Addr), SE (X.blk s H scope (compEnvC scope cl Cc X.env) fp) C WF elt ie) (ho : ∀ i ∈ tg.slots, i ∈ own.map (·.2) := by decide) (hs : ∀ x, foldedSetIterable iter X.env x = pure x := by intro _; rfl) :
    SR X C W (.ListComp elt [⟨tge, iter, ifs, 0⟩] scope pos) (.comp (own.map (·.2)) tg it t ie) :=
  peImp (pe_lc hc hN hi ok hg ht he hs) fun σ H Q ⟨e, E, q⟩ => by
    have q : fin C W σ e H _ ((ev C.T (.comp (own.map (·.2)) tg it t ie) e).bind fun d e1 => match d with
      | .lst ds => .ok (RV.fr (.lst ds)) e1
      | _ => .stuck) := q
    exact compRd ho E q.bind fun a xs ds e1 H1 e' H' g1 h1 ha r g k => k H' g _ (g1.trans g) _ ⟨a, _, rfl, .inl (g1.fresh h1), ha, r, fun m => g1.env.freeI h1 (g.muS m)⟩
/-- a display that may be written -/
def mLst (ds : List D) : Option MC := if ds.length ≤ 16777216 then some (.lst ds) else none
theorem sr_lst (h : SEs X C W es ies) : SR X C W (.List es pos) (.fr mLst ies) := peImp (pe_lst h) fun σ H Q ⟨e, E, q⟩ => by
  have q : fin C W σ e H _ ((evs C.T ies e).bind fun ds e1 => .opt ((mLst ds).map RV.fr) e1) := q
  refine ⟨e, E, q.bind'.mono fun ds e1 H1 g q1 vs r => ?_⟩
  obtain ⟨rv, h1, h2⟩ := fin.opt g.env q1
  obtain ⟨c, h3, rfl⟩ := Option.map_eq_some_iff.mp h1
  unfold mLst at h3
  split at h3
  · cases h3
    rename_i hl
    rw [← r.length] at hl
    exact ⟨sz_ge hl, fun p hp => h2 _ (upd_sameH hp) _ ⟨p, _, rfl, .inl (g.fresh hp), upd_same, r.kt (KT.same (upd_sameH hp)), g.env.freeI hp⟩⟩
  · cases h3
theorem sr_call (F : FnAt X.prog X.w X.K X.mg X.base C lv x k) (hgd : X.A.guards = some []) (hr : Room lv X.A) (tk : Takes X W) (hg : Gl X x) (ha : SAs X C W (e0 :: es) ias) {p : Pos}
    (hdb : (x == ("__debug__" : Str)) = false := by decide) (he : starEach (e0 :: es) X.env = (false, eval e0 X.env) :: starEach es X.env := by rfl) (hpl : (backTo pos (starEach es X.env)).any (·.1) = false := by rfl) :
    SR X C W (.Call (.Name x p) (e0 :: es) [] pos) (.call k ias) := by
  obtain ⟨f, fd, ps, hm, hf, hk, G, hb⟩ := F.ex
  refine peImp (pe_callG G hgd hr hg hm hk hb tk ha hdb he hpl) fun σ H Q ⟨e, E, q⟩ => ?_
  have q : fin C W σ e H _ ((eva C.T ias e).bind fun avs e1 => callF C.T k avs e1) := q
  refine ⟨e, E, q.bind'.mono fun avs e1 H1 g q1 vs A => callEnd g.env A q1 fun r e2 H2 v g2 q2 rv => q2 v ?_⟩
  cases r with
  | v d => exact rv
  | fr c =>
    obtain ⟨a, o, rfl, h0, ha, m⟩ := rv
    exact ⟨a, o, rfl, .inl (g.fresh h0), ha, m, fun z => g.env.freeI h0 (g2.muS z)⟩
theorem sr_mv (i : Nat) {p : Pos} (hN : X.N[i]? = some x := by rfl) (hv : Vis X.env.scope x := by first | exact Or.inl rfl | exact Or.inr (Or.inl rfl) | exact Or.inr (Or.inr rfl)) (hd : (x == ("__debug__" : Str)) = false := by decide)
    (hcd : (x == ("__classdict__" : Str)) = false := by decide) : SR X C W (.Name x p) (.mv i) := peImp (pe_var (i := i) hN hv hd hcd) fun σ H Q ⟨e, E, q⟩ => by
  have q : fin C W σ e H _ (match e[i]? with
    | some (.mt false c) => .ok (RV.fr c) (e.set i .un)
    | some (.val d) => .ok (RV.v d) e
    | _ => .stuck) := q
  cases he : e[i]? with
  | none => rw [he] at q; exact q.elim
  | some s =>
    rw [he] at q
    cases s with
    | un => exact q.elim
    | val d =>
      obtain ⟨v, h1, h2⟩ := E.val i d he
      exact ⟨v, h1, (fin.okE E q) v h2⟩
    | mt p c =>
      cases p with
      | true => exact q.elim
      | false =>
        obtain ⟨a, o, h1, h2, h3⟩ := E.mt i false c he
        have mtS : ∀ (j : Nat) (p : Bool) (c : MC), (e.set i .un)[j]? = some (Slo.mt p c) → j ≠ i ∧ e[j]? = some (Slo.mt p c) := fun j p c h => set_mt (fun _ _ z => by cases z) h
        have g : Ge C.K σ e H (e.set i .un) H := by
          refine ⟨⟨by simp [E.len], fun j d h => ?_, fun j p c h => E.mt j p c (mtS j p c h).2, fun j k b ⟨q1, p, c, q2⟩ ⟨q3, p', c', q4⟩ => E.inj j k b ⟨q1, p, c, (mtS j p c q2).2⟩ ⟨q3, p', c', (mtS k p' c' q4).2⟩, E.fix⟩, fun _ _ h _ => h, fun j p c h => ⟨c, (mtS j p c h).2, rfl⟩, fun b m => let ⟨o, _, h, _⟩ := E.mu m; ⟨o, h⟩⟩
          rcases set_get h with ⟨rfl, z, hl⟩ | ⟨hj, z⟩
          · cases z
          · exact E.val j d z
        refine ⟨_, h1, q H g _ ⟨a, o, rfl, .inr ⟨i, c, h1, he⟩, h2, h3, fun ⟨j, q1, p, c', q2⟩ => ?_⟩⟩
        obtain ⟨hj, q2⟩ := mtS j p c' q2
        exact hj (E.inj j i a ⟨q1, p, c', q2⟩ ⟨h1, _, _, he⟩)
end
end Eng

set_option Elab.async false
set_option linter.all false
set_option maxRecDepth 100000
/-! Statements. -/
namespace Eng
open PySem PySem.Spec L2

def RvS (K : Kx) (σ : Sg) (e : Sls) (H H' : Hp) (v : V) : RV → Prop
  | .v d => Fd K H' v d
  | .fr c => ∃ a o, v = .ref a ∧ (H a = none ∨ Mp false σ e a) ∧ H' a = some o ∧ McOk K H' o c
def finS (C : Ct) (W : WX) (D : Ends) (σ : Sg) (e : Sls) (H : Hp) : SO → Prop
  | .nx e' => ∀ σ' H', Go C.K σ e H σ' e' H' → D.nx σ' H'
  | .ret r e' => ∀ σ' H' v, Go C.K σ e H σ' e' H' → RvS C.K σ e H H' v r → D.rt v H'
  | .brk e' => ∀ σ' H', Go C.K σ e H σ' e' H' → D.bk σ' H'
  | .cnt e' => ∀ σ' H', Go C.K σ e H σ' e' H' → D.ct σ' H'
  | .exc x e' => ∀ cls d σ' H', C.ex H' cls d x → Go C.K σ e H σ' e' H' → W cls d σ' H'
  | .stuck => False
def rdS (C : Ct) (W : WX) (is : IS) : TS := fun D σ H => ∃ e, EnvOk C.K H σ e ∧ finS C W D σ e H (exS C.T is e)
def SS (X : Cx) (C : Ct) (W : WX) (st : Stmt) (is : IS) : Prop := PS X st (rdS C W is)
def SSs (X : Cx) (C : Ct) (W : WX) (st : List Stmt) (is : IS) : Prop := PSs X st (rdS C W is)
section
variable {C : Ct} {W : WX} {D : Ends} {σ σ' : Sg} {e e' : Sls} {H H' : Hp}
theorem RvS.back {K : Kx} {H2 : Hp} {v : V} {r : RV} (g : Go K σ e H σ' e' H') (h : RvS K σ' e' H' H2 v r) : RvS K σ e H H2 v r := by
  cases r with
  | v d => exact h
  | fr c =>
    obtain ⟨a, o, rfl, h0, ha, m⟩ := h
    refine ⟨a, o, rfl, ?_, ha, m⟩
    rcases h0 with h0 | h0
    · exact .inl (g.fresh h0)
    · exact (g.mp false a h0).elim .inr .inl
theorem finS.back {o : SO} (g : Go C.K σ e H σ' e' H') (h : finS C W D σ e H o) : finS C W D σ' e' H' o := by
  cases o with
  | nx e2 => exact fun σ2 H2 g2 => h σ2 H2 (g.trans g2)
  | ret r e2 => exact fun σ2 H2 v g2 rv => h σ2 H2 v (g.trans g2) (rv.back g)
  | brk e2 => exact fun σ2 H2 g2 => h σ2 H2 (g.trans g2)
  | cnt e2 => exact fun σ2 H2 g2 => h σ2 H2 (g.trans g2)
  | exc x e2 => exact fun cls d σ2 H2 q g2 => h cls d σ2 H2 q (g.trans g2)
  | stuck => exact h
/-- an expression's end within a statement -/
theorem finOf {α : Type} {o : Out α} {k : α → Sls → SO} (h : finS C W D σ e H (o.so k)) : fin C W σ e H (fun a e1 H1 => finS C W D σ e1 H1 (k a e1)) o := by
  cases o with
  | ok a e1 => exact fun H1 g => h.back g.go
  | exc x e1 => exact fun cls d H1 q g => h cls d σ H1 q g.go
  | stuck => exact h
theorem finOf0 {α : Type} {o : Out α} {k : α → Sls → SO} (h : finS C W D σ e H (o.so k)) : fin C W σ e H (fun a e1 H1 => finS C W D σ e H (k a e1)) o := by
  cases o with
  | ok a e1 => exact fun H1 g => h
  | exc x e1 => exact fun cls d H1 q g => h cls d σ H1 q g.go
  | stuck => exact h
theorem optS {o : Option Sls} (h : finS C W D σ e H (.opt o)) : ∃ e2, o = some e2 ∧ ∀ σ' H', Go C.K σ e H σ' e2 H' → D.nx σ' H' := by
  cases o with
  | none => exact h.elim
  | some e2 => exact ⟨e2, rfl, h⟩
end
section
variable {X : Cx} {C : Ct} {W : WX} {a b c : Expr} {ia ib ic : IE} {ra rb : IR} {pos : Pos} {st : Stmt} {rest sts sts' : List Stmt} {is is' : IS} {tge : Expr} {tg : Tg}
theorem ss_nil : SSs X C W [] .nop := pssImp pss_nil fun D σ H ⟨e, E, q⟩ => q σ H (Go.refl E)
theorem ss_cons (h1 : SS X C W st is) (h2 : SSs X C W rest is') : SSs X C W (st :: rest) (.seq is is') := pssImp (pss_cons h1 h2) fun D σ H ⟨e, E, q⟩ => by
  refine ⟨e, E, ?_⟩
  have q : finS C W D σ e H ((exS C.T is e).seq fun e1 => exS C.T is' e1) := q
  cases ho : exS C.T is e with
  | nx e1 =>
    rw [ho] at q
    exact fun σ' H' g => ⟨e1, g.env, q.back g⟩
  | _ => rw [ho] at q; exact q
theorem ss_one (h1 : SS X C W st is) : SSs X C W [st] is := pss_one h1
theorem ss_pass : SS X C W (.Pass pos) .nop := psImp ps_pass fun D σ H ⟨e, E, q⟩ => q σ H (Go.refl E)
theorem ss_brk : SS X C W (.Break pos) .brk := psImp ps_break fun D σ H ⟨e, E, q⟩ => q σ H (Go.refl E)
theorem ss_cnt : SS X C W (.Continue pos) .cnt := psImp ps_continue fun D σ H ⟨e, E, q⟩ => q σ H (Go.refl E)
theorem ss_doc {x j p} : SS X C W (.Expr (.Constant (.str x) j p) pos) .nop := psImp ps_doc fun D σ H ⟨e, E, q⟩ => q σ H (Go.refl E)
theorem ss_ex (h : SE X C W a ia) (hs : swapsWith a none pos.line X.env = pure false := by rfl) : SS X C W (.Expr a pos) (.ex ia) := psImp (ps_expr h hs) fun D σ H ⟨e, E, q⟩ => by
  have q : finS C W D σ e H ((ev C.T ia e).so fun _ e1 => .nx e1) := q
  exact ⟨e, E, (finOf q).mono fun d e1 H1 g q1 v r => q1 σ H1 (Go.refl g.env)⟩
theorem ss_ret (h : SR X C W a ra) : SS X C W (.Return (some a) pos) (.ret ra) := psImp (ps_ret h) fun D σ H ⟨e, E, q⟩ => by
  have q : finS C W D σ e H ((evr C.T ra e).so fun r e1 => .ret r e1) := q
  refine ⟨e, E, ?_⟩
  cases ho : evr C.T ra e with
  | stuck => rw [ho] at q; exact q
  | exc x e1 => rw [ho] at q; exact fun cls d H1 ex g => q cls d σ H1 ex g.go
  | ok r e1 =>
    rw [ho] at q
    intro H1 g v rv
    refine q σ H1 v g.go ?_
    cases r with
    | v d => exact rv
    | fr c =>
      obtain ⟨a, o, e0, h0, ha, m, _⟩ := rv
      exact ⟨a, o, e0, h0, ha, m⟩
theorem ss_retN : SS X C W (.Return none pos) (.ret (.val (.c .non))) := psImp ps_retN fun D σ H ⟨e, E, q⟩ => q σ H .non (Go.refl E) .non
theorem ss_if (h : SB X C W a ia) (h1 : SSs X C W sts is) (h2 : SSs X C W sts' is') : SS X C W (.If a sts sts' pos) (.ife ia is is') := psImp (ps_if h h1 h2) fun D σ H ⟨e, E, q⟩ => by
  have q : finS C W D σ e H ((ev C.T ia e).so fun d e1 => .ifb d (exS C.T is e1) (exS C.T is' e1)) := q
  refine ⟨e, E, ?_⟩
  cases ho : ev C.T ia e with
  | stuck => rw [ho] at q; exact q
  | exc x e1 => rw [ho] at q; exact fun cls d H1 ex g => q cls d σ H1 ex g.go
  | ok d e1 =>
    rw [ho] at q
    intro H1 g
    cases d with
    | bl k =>
      refine ⟨k, rfl, ?_⟩
      cases k with
      | true => exact ⟨e1, g.env, finS.back g.go q⟩
      | false => exact ⟨e1, g.env, finS.back g.go q⟩
    | _ => exact q.elim
/-- target = e -/
theorem ss_put (h : SE X C W a ia) (hg : SG X C tge tg) (hs : swapsWithSole [tge] a pos.line X.env = pure false := by rfl) (hw : swappedStores [tge] a X.env = pure none := by rfl) (h1 : (assignEach [tge] X.env).map (·.2) = [assign tge X.env] := by rfl) :
    SS X C W (.Assign [tge] a pos) (.put tg ia) := psImp (ps_asg h hg hs hw h1) fun D σ H ⟨e, E, q⟩ => by
  have q : finS C W D σ e H ((ev C.T ia e).so fun d e1 => .opt (tg.put d e1)) := q
  refine ⟨e, E, (finOf q).mono fun d e1 H1 g q1 v r => ?_⟩
  obtain ⟨e2, h2, h3⟩ := optS q1
  exact ⟨e1, d, e2, g.env, r, h2, fun σ' g2 _ => h3 σ' H1 g2⟩
theorem ss_set (i : Nat) {x : Str} {p : Pos} (hN : X.N.Nodup) (h : SE X C W a ia) (hi : X.N[i]? = some x := by rfl) (hx : Loc X.env.scope x := by first | exact Or.inl rfl | exact Or.inr rfl) (hs : swapsWith a (some (.Name x p)) pos.line X.env = pure false := by rfl)
    (hf : X.fn x = true ∨ X.env.scope.names.lookup x = some .local := by first | exact .inl rfl | exact .inr rfl | assumption) : SS X C W (.Assign [.Name x p] a pos) (.put (.n i) ia) := psImp (ps_set (i := i) hN hi hx h hs hf) fun D σ H ⟨e, E, q⟩ => by
  have q : finS C W D σ e H ((ev C.T ia e).so fun d e1 => .opt (putN i d e1)) := q
  refine ⟨e, E, (finOf q).mono fun d e1 H1 g q1 v r => ?_⟩
  obtain ⟨e2, h2, h3⟩ := optS q1
  have z := putN_some h2
  subst z
  exact h3 _ H1 (Go.store g.env r)
/-- a root's end is stored -/
theorem Go.storeR {K : Kx} {σ : Sg} {e0 e1 e2 : Sls} {H0 H1 : Hp} {i : Nat} {v : V} {r : RV} (g : Ge K σ e0 H0 e1 H1) (rv : RvR K σ e0 H0 e1 H1 v r) (h : stR i r e1 = some e2) : Go K σ e0 H0 (σ.set i (some v)) e2 H1 := by
  unfold stR at h
  split at h
  · cases h
  · have z := (Option.some.inj h).symm
    subst z
    cases r with
    | v d => exact g.go.trans (Go.store g.env rv)
    | fr c =>
      obtain ⟨a, o, rfl, h0, ha, m, nm⟩ := rv
      exact Go.storeM ha nm m g.go h0
  · cases h
theorem ss_setm (i : Nat) {x : Str} {p : Pos} (hN : X.N.Nodup) (h : SR X C W a ra) (hi : X.N[i]? = some x := by rfl) (hx : Loc X.env.scope x := by first | exact Or.inl rfl | exact Or.inr rfl) (hs : swapsWith a (some (.Name x p)) pos.line X.env = pure false := by rfl)
    (hf : X.fn x = true ∨ X.env.scope.names.lookup x = some .local := by first | exact .inl rfl | exact .inr rfl | assumption) : SS X C W (.Assign [.Name x p] a pos) (.setm i ra) := psImp (ps_set (i := i) hN hi hx h hs hf) fun D σ H ⟨e, E, q⟩ => by
  have q : finS C W D σ e H ((evr C.T ra e).so fun r e1 => .opt (stR i r e1)) := q
  refine ⟨e, E, ?_⟩
  cases ho : evr C.T ra e with
  | stuck => rw [ho] at q; exact q
  | exc x e1 => rw [ho] at q; exact fun cls d H1 ex g => q cls d σ H1 ex g.go
  | ok r e1 =>
    rw [ho] at q
    intro H1 g v rv
    obtain ⟨e2, h2, h3⟩ := optS q
    exact h3 _ H1 (Go.storeR g rv h2)
/-- y = [..], the name a local -/
theorem ss_setLc {own : List (Str × Nat)} {elt iter : Expr} {ifs : List Expr} {scope : Scope} {it : II} {t ie : IE} {py spos : Pos} (i : Nat) {y : Str} (hc : X.calm = true) (hN : X.N.Nodup)
    (hi : SI X C W tge iter it) (ok : BlkOk X.N X.env.scope scope own)
    (hg : ∀ (s : Shared) (H : Hp) (Cc : Addr) (cl : List (Str × Addr)) (fp : List Addr), SG (X.blk s H scope (compEnvC scope cl Cc X.env) fp) C tge tg) (ht : ∀ (s : Shared) (H : Hp) (Cc : Addr) (cl : List (Str × Addr)) (fp : List Addr), STs (X.blk s H scope (compEnvC scope cl Cc X.env) fp) C WF ifs t)
    (he : ∀ (s : Shared) (H : Hp) (Cc : Addr) (cl : List (Str × Addr)) (fp : List Addr), SE (X.blk s H scope (compEnvC scope cl Cc X.env) fp) C WF elt ie) (hy : X.N[i]? = some y := by rfl) (hyl : X.env.scope.names.lookup y = some .local := by rfl)
    (hk : X.env.scope.kind = .function := by rfl) (hl : (py.line == pos.line) = true := by rfl) (ha : (scope.names.any fun (n, k) => n == y && (k == .local || k == .cell)) = false := by decide +kernel)
    (ho : ∀ i ∈ tg.slots, i ∈ own.map (·.2) := by decide) (hs : ∀ x, foldedSetIterable iter X.env x = pure x := by intro _; rfl) (hl2 : (spos.line == pos.line) = true := by rfl) :
    SS X C W (.Assign [.Name y py] (.ListComp elt [⟨tge, iter, ifs, 0⟩] scope pos) spos) (.setm i (.comp (own.map (·.2)) tg it t ie)) :=
  psImp (ps_setLc (i := i) hc hN hy hyl (sw_true hk hyl hl ha) hi ok hg ht he hs) fun D σ H ⟨e, E, q⟩ => by
    have q : finS C W D σ e H ((evr C.T (.comp (own.map (·.2)) tg it t ie) e).so fun r e1 => .opt (stR i r e1)) := q
    have q2 : fin C W σ e H (fun r e1 H1 => finS C W D σ e H (.opt (stR i r e1))) ((ev C.T (.comp (own.map (·.2)) tg it t ie) e).bind fun d e1 => match d with
      | .lst ds => .ok (RV.fr (.lst ds)) e1
      | _ => .stuck) := finOf0 q
    exact compRd ho E q2.bind fun a xs ds e1 H1 e' H' g1 h1 ha r g k => by
      have gg := g1.trans g
      obtain ⟨e2, h2, h3⟩ := optS (k H' g H' gg)
      exact h3 _ H' (Go.storeR (r := .fr (.lst ds)) gg ⟨a, _, rfl, .inl (g1.fresh h1), ha, r, fun m => g1.env.freeI h1 (g.muS m)⟩ h2)
/-- a, b = x, y -/
theorem ss_par (i j : Nat) {x y : Str} {px py pt : Pos} {kt k2 : Nat} {pt2 : Pos} (hc : X.calm = true) (hN : X.N.Nodup) (ha : SR X C W a ra) (hb : SR X C W b rb) (hi : X.N[i]? = some x := by rfl) (hj : X.N[j]? = some y := by rfl) (hij : i ≠ j := by decide)
    (hx : X.env.scope.names.lookup x = some .local := by rfl) (hy : X.env.scope.names.lookup y = some .local := by rfl) 
    (hw : swappedStores [.Tuple [.Name x px, .Name y py] kt pt] (.Tuple [a, b] k2 pt2) X.env = pure (some [x, y]) := by rfl)
    (hs : swapsWithSole [.Tuple [.Name x px, .Name y py] kt pt] (.Tuple [a, b] k2 pt2) pos.line X.env = pure false := by rfl)
    (s1 : starEach [a, b] X.env = (false, eval a X.env) :: starEach [b] X.env := by rfl) (s2 : starEach [b] X.env = (false, eval b X.env) :: starEach [] X.env := by rfl) :
    SS X C W (.Assign [.Tuple [.Name x px, .Name y py] kt pt] (.Tuple [a, b] k2 pt2) pos) (.par i j ra rb) :=
  psImp (ps_par hc hN hi hj hij hx hy (pa_cons ha (pa_cons hb pa_nil s2) s1) hw hs) fun D σ H ⟨e, E, q⟩ => by
    have q : finS C W D σ e H ((evr C.T ra e).so fun r e1 => (evr C.T rb e1).so fun r' e2 => .opt ((stR i r e2).bind (stR j r'))) := q
    refine ⟨e, E, ?_⟩
    cases ho : evr C.T ra e with
    | stuck => rw [ho] at q; exact q
    | exc x e1 => rw [ho] at q; exact fun cls d H1 ex g => q cls d σ H1 ex g.go
    | ok r e1 =>
      rw [ho] at q
      intro H1 g1 v rv
      refine ⟨e1, g1.env, ?_⟩
      have q : finS C W D σ e H ((evr C.T rb e1).so fun r' e2 => .opt ((stR i r e2).bind (stR j r'))) := q
      cases ho2 : evr C.T rb e1 with
      | stuck => rw [ho2] at q; exact q
      | exc x e2 => rw [ho2] at q; exact fun cls d H2 ex g => q cls d σ H2 ex (g1.trans g).go
      | ok r' e2 =>
        rw [ho2] at q
        intro H2 g2 v' rv'
        refine ⟨v, v', rfl, ?_⟩
        obtain ⟨e3, h2, h3⟩ := optS q
        obtain ⟨e4, h4, h5⟩ := Option.bind_eq_some_iff.mp h2
        have kt := g2.kt g1.env
        -- the first at the second's end
        have rv2 : RvR C.K σ e H e2 H2 v r := by
          cases r with
          | v d => exact rv.kt kt
          | fr c =>
            obtain ⟨a, o, rfl, h0, ha, m, nm⟩ := rv
            exact ⟨a, o, rfl, h0, g2.keep a o ha nm, m.kt kt, fun z => nm (g2.muS z)⟩
        have go1 := Go.storeR (g1.trans g2) rv2 h4
        refine h3 _ H2 ?_
        -- the second behind the first's store
        unfold stR at h5
        split at h5
        · cases h5
        · have z := (Option.some.inj h5).symm
          subst z
          cases r' with
          | v d => exact go1.trans (Go.store go1.env rv')
          | fr c =>
            obtain ⟨b', o', rfl, h0', ha', m', nm'⟩ := rv'
            refine Go.storeM ha' ?_ m' go1 ?_
            · rintro ⟨k, q1, p, c', q2⟩
              unfold stR at h4
              split at h4
              · cases h4
              · have z := (Option.some.inj h4).symm
                subst z
                cases r with
                | v d =>
                  obtain ⟨hk, q2⟩ := set_mt (fun _ _ z => by cases z) q2
                  rw [List.getElem?_set_ne (Ne.symm hk)] at q1
                  exact nm' ⟨k, q1, p, c', q2⟩
                | fr c0 =>
                  obtain ⟨a0, o0, rfl, k0, ka, km, knm⟩ := rv
                  rcases set_get q2 with ⟨rfl, z, hl⟩ | ⟨hk, z⟩
                  · rw [List.getElem?_set_self (by rw [g2.env.len]; exact hl)] at q1
                    cases q1
                    rcases h0' with h0' | h0'
                    · rw [ka] at h0'
                      cases h0'
                    · exact knm h0'.mw
                  · rw [List.getElem?_set_ne (Ne.symm hk)] at q1
                    exact nm' ⟨k, q1, p, c', z⟩
              · cases h4
            · rcases h0' with h0' | h0'
              · exact .inl (g1.fresh h0')
              · exact (g1.go.mp false b' h0').elim .inr .inl
        · cases h5
end
end Eng

set_option Elab.async false
set_option linter.all false
set_option maxRecDepth 100000
/-! Loops, stores, exceptions. -/
namespace Eng
open PySem PySem.Spec L2
section
variable {X : Cx} {C : Ct} {W : WX} {a b c it : Expr} {ia ib ic : IE} {ra rb : IR} {pos : Pos} {st : Stmt} {rest sts sts' : List Stmt} {is is' : IS} {tge : Expr} {tg : Tg} {ii : II}
/-- x op= e -/
theorem ss_aug (i : Nat) {x : Str} {p : Pos} {op : Operator} {f : List D → Option D} (hN : X.N.Nodup) (ho : PIp X op (rOp C f)) (h : SE X C W a ia) (hi : X.N[i]? = some x := by rfl) (hx : Loc X.env.scope x := by first | exact Or.inl rfl | exact Or.inr rfl)
    (hf : X.fn x = true ∨ X.env.scope.names.lookup x = some .local := by first | exact .inl rfl | exact .inr rfl | assumption) : SS X C W (.AugAssign (.Name x p) op a pos) (.aug i f ia) :=
  psImp (ps_aug (i := i) hN hi hx h ho hf) fun D σ H ⟨e, E, q⟩ => by
    have q : finS C W D σ e H (match e[i]? with
      | some (.val d) => (ev C.T ia e).so fun d2 e1 => .opt ((f [d, d2]).bind fun d3 => putN i d3 e1)
      | _ => .stuck) := q
    cases he : e[i]? with
    | none => rw [he] at q; exact q.elim
    | some s =>
      rw [he] at q
      cases s with
      | un => exact q.elim
      | mt p c => exact q.elim
      | val d =>
        obtain ⟨v, h1, h2⟩ := E.val i d he
        refine ⟨v, h1, e, E, (finOf q).mono fun d2 e1 H1 g q1 v2 r2 => ?_⟩
        obtain ⟨e2, h4, h5⟩ := optS q1
        obtain ⟨d3, hf, hp⟩ := Option.bind_eq_some_iff.mp h4
        refine ⟨d, d2, d3, h2.kt (g.kt E), r2, hf, fun v3 H' s r3 => ?_⟩
        have z := putN_some hp
        subst z
        exact h5 _ H' ((Ge.same g.env s).go.trans (Go.store (g.env.same s) r3))
/-- x[i] = e, x a list that may be written -/
theorem ss_setix (i : Nat) {x : Str} {p sp : Pos} (kk : C.K.k = X.K) (hb : SE X C W b ib) (ha : SE X C W a ia) (hN : X.N[i]? = some x := by rfl) (hv : Vis X.env.scope x := by first | exact Or.inl rfl | exact Or.inr (Or.inl rfl) | exact Or.inr (Or.inr rfl))
    (hd : (x == ("__debug__" : Str)) = false := by decide) (hcd : (x == ("__classdict__" : Str)) = false := by decide)
    (hs : swapsWithSole [.Subscript (.Name x p) b sp] a pos.line X.env = pure false := by rfl) (hw : swappedStores [.Subscript (.Name x p) b sp] a X.env = pure none := by rfl) (h1 : (assignEach [.Subscript (.Name x p) b sp] X.env).map (·.2) = [assign (.Subscript (.Name x p) b sp) X.env] := by rfl)
    (hsub : ∀ v, assign (.Subscript (.Name x p) b sp) X.env v = (do
      let ov ← holding [v] (eval (.Name x p) X.env)
      let iv ← holding [v, ov] (eval b X.env)
      standAt sp
      holding [v, ov, iv] (setItem ov iv v)
      release [v, ov, iv] []) := by intro _; rfl) :
    SS X C W (.Assign [.Subscript (.Name x p) b sp] a pos) (.ex (.smut true i fSet (.cons ia (.cons ib .nil)))) :=
  psImp (ps_asg ha (pg_sub (pe_var (i := i) hN hv hd hcd) hb set_list hsub) hs hw h1) fun D σ H ⟨e, E, q⟩ => by
    have q : finS C W D σ e H ((ev C.T (.smut true i fSet (.cons ia (.cons ib .nil))) e).so fun _ e1 => .nx e1) := q
    obtain ⟨e', E', a0, o, p0, c, h1, h2, h3, h4, hk, q⟩ := smutE (Q := fun _ H' => D.nx σ H') ⟨e, E, (finOf q).mono fun d e1 H1 g q1 v r => q1 σ H1 (Go.refl g.env)⟩
    simp only [evs, Out.bind_assoc, Out.ok_bind] at q
    refine ⟨e', E', q.bind'.mono fun d e1 H1 g1 q1 v r => ⟨_, h1, e1, g1.env, q1.bind'.mono fun d2 e2 H2 g2 q2 v2 r2 => ?_⟩⟩
    obtain ⟨o1, c1, c2, d3, k1, k2, k3, k4, k5, k6⟩ := fin.okE g2.env q2
    obtain ⟨xs, y, j, n, rfl, e3, hl, rfl, rfl⟩ := fSet_some k4
    cases e3
    obtain ⟨vs, ds', rfl, e3, k7⟩ := lstAt k2 rfl
    cases e3
    cases r2
    have r' := r.kt (g2.kt g1.env)
    refine ⟨a0, vs, j, n, rfl, rfl, k1, by rw [k7.length]; exact hl, ?_⟩
    exact k6 (.lst (vs.set n v)) H2 .non (Same.refl H2) (Fds.set r' n k7) .non _ rfl .non .non
/-- for -/
theorem ss_for (hp : PassesOwn (model X.prog X.w) X.A X.env X.xe) (hc : X.calm = true) (hi : SI X C W tge it ii) (hg : SG X C tge tg) (hb : SSs X C W sts is) (hs : ∀ x, foldedSetIterable it X.env x = pure x := by intro _; rfl) : SS X C W (.For tge it sts [] pos) (.for tg ii is) :=
  psImp (ps_for hp hc hi hg hb hs) fun D σ H ⟨e, E, q⟩ => by
    have q : finS C W D σ e H ((evi C.T ii e).so fun items e1 => evFor tg.put (fun e => exS C.T is e) items e1) := q
    refine ⟨e, E, (finOf q).mono fun items e1 H1 g1 q1 J ok => ?_⟩
    refine ⟨fun i m σ' H' => m = items.length - i ∧ i ≤ items.length ∧ ∃ e', Go C.K σ e1 H1 σ' e' H' ∧ finS C W D σ' e' H' (evFor tg.put (fun e => exS C.T is e) (items.drop i) e'),
      ⟨items.length, by simp, Nat.zero_le _, e1, Go.refl g1.env, by simpa using q1⟩, ?_⟩
    rintro i m σ2 H2 ⟨rfl, hi, e2, g2, q2⟩
    obtain ⟨ok1, ok2⟩ := ok i H2 (g2.kt g1.env)
    by_cases hlt : i < items.length
    · right
      obtain ⟨go, yl⟩ := ok1 hlt
      refine ⟨go, fun σ' H' => i + 1 ≤ items.length ∧ ∃ e', Go C.K σ e1 H1 σ' e' H' ∧ finS C W D σ' e' H' (evFor tg.put (fun e => exS C.T is e) (items.drop (i + 1)) e'), fun σ' H' z => ⟨items.length - (i + 1), by omega, rfl, z⟩, fun x H3 y => ?_⟩
      obtain ⟨sm, d, hd, rd⟩ := yl x H3 y
      have hdrop : items.drop i = d :: items.drop (i + 1) := by
        rw [List.drop_eq_getElem_cons hlt]
        rw [List.getElem?_eq_getElem hlt] at hd
        cases hd
        rfl
      rw [hdrop] at q2
      have E3 := g2.env.same sm
      have g3 : Go C.K σ2 e2 H2 σ2 e2 H3 := (Ge.same g2.env sm).go
      have q3 : finS C W D σ2 e2 H3 (.putThen (tg.put d e2) fun e1 => (exS C.T is e1).loop fun e2 => evFor tg.put (fun e => exS C.T is e) (items.drop (i + 1)) e2) := finS.back g3 q2
      cases hp : tg.put d e2 with
      | none => rw [hp] at q3; exact q3.elim
      | some e4 =>
        rw [hp] at q3
        refine ⟨e2, d, e4, E3, rd, hp, fun σ4 g4 _ => ⟨e4, g4.env, ?_⟩⟩
        have q4 : finS C W D σ4 e4 H3 ((exS C.T is e4).loop fun e2 => evFor tg.put (fun e => exS C.T is e) (items.drop (i + 1)) e2) := finS.back g4 q3
        have gg := (g2.trans g3).trans g4
        cases ho : exS C.T is e4 with
        | nx e5 => rw [ho] at q4; exact fun σ5 H5 g5 => ⟨hlt, e5, gg.trans g5, q4.back g5⟩
        | cnt e5 => rw [ho] at q4; exact fun σ5 H5 g5 => ⟨hlt, e5, gg.trans g5, q4.back g5⟩
        | brk e5 => rw [ho] at q4; exact q4
        | ret r e5 => rw [ho] at q4; exact q4
        | exc x e5 => rw [ho] at q4; exact q4
        | stuck => rw [ho] at q4; exact q4
    · left
      have hi' : i = items.length := by omega
      subst hi'
      rw [List.drop_length] at q2
      exact ⟨ok2 (Nat.le_refl _), q2 σ2 H2 (Go.refl g2.env)⟩
/-- while -/
theorem ss_while (hp : PassesOwn (model X.prog X.w) X.A X.env X.xe) (hc : SB X C W a ia) (hb : SSs X C W sts is) : SS X C W (.While a sts [] pos) (.while ia is) :=
  psImp (ps_while hp hc hb) fun D σ H ⟨e, E, q⟩ => by
    have q : finS C W D σ e H (evWh (fun e => ev C.T ia e) (fun e => exS C.T is e) C.T.fuel e) := q
    refine ⟨fun m σ' H' => ∃ e', EnvOk C.K H' σ' e' ∧ finS C W D σ' e' H' (evWh (fun e => ev C.T ia e) (fun e => exS C.T is e) m e'), ⟨C.T.fuel, e, E, q⟩, ?_⟩
    rintro m σ1 H1 ⟨e1, E1, q1⟩
    cases m with
    | zero => exact q1.elim
    | succ m =>
      refine ⟨e1, E1, ?_⟩
      have q1 : finS C W D σ1 e1 H1 ((ev C.T ia e1).so fun d e2 => .ifb d ((exS C.T is e2).loop fun e3 => evWh (fun e => ev C.T ia e) (fun e => exS C.T is e) m e3) (.nx e2)) := q1
      refine (finOf q1).mono fun d e2 H2 g2 q2 => ?_
      cases d with
      | bl k =>
        refine ⟨k, rfl, ?_⟩
        cases k with
        | false => exact q2 σ1 H2 (Go.refl g2.env)
        | true =>
          simp only [if_true]
          refine ⟨fun σ' H' => ∃ e', EnvOk C.K H' σ' e' ∧ finS C W D σ' e' H' (evWh (fun e => ev C.T ia e) (fun e => exS C.T is e) m e'), fun σ' H' z => ⟨m, Nat.lt_succ_self m, z⟩, e2, g2.env, ?_⟩
          have q2 : finS C W D σ1 e2 H2 ((exS C.T is e2).loop fun e3 => evWh (fun e => ev C.T ia e) (fun e => exS C.T is e) m e3) := q2
          cases ho : exS C.T is e2 with
          | nx e5 => rw [ho] at q2; exact fun σ5 H5 g5 => ⟨e5, g5.env, q2.back g5⟩
          | cnt e5 => rw [ho] at q2; exact fun σ5 H5 g5 => ⟨e5, g5.env, q2.back g5⟩
          | brk e5 => rw [ho] at q2; exact q2
          | ret r e5 => rw [ho] at q2; exact q2
          | exc x e5 => rw [ho] at q2; exact q2
          | stuck => rw [ho] at q2; exact q2
      | _ => exact q2.elim
/-- raise X(..): the making's reading gives the exception -/
theorem ss_raise {k : Nat} {f : List D → Option (Option D)} {ies : IEs} (hc : X.calm = true) (tk : Takes X W) (hm : PMk X a (fun σ H Q => ∃ e, EnvOk C.K H σ e ∧ fin C W σ e H (fun ds e1 H1 => ∃ o, f ds = some o ∧ ∀ cls d H2, L2.Same H1 H2 → C.ex H2 cls d ⟨k, o⟩ → Q cls d H2) (evs C.T ies e))) :
    SS X C W (.Raise (some a) none pos) (.raise k f ies) := psImp (ps_raise hc tk hm) fun D σ H ⟨e, E, q⟩ => by
  have q : finS C W D σ e H ((evs C.T ies e).so fun ds e1 => match f ds with
    | some o => .exc ⟨k, o⟩ e1
    | none => .stuck) := q
  refine ⟨e, E, (finOf q).mono fun ds e1 H1 g q1 => ?_⟩
  cases hf : f ds with
  | none => rw [hf] at q1; exact q1.elim
  | some o =>
    rw [hf] at q1
    exact ⟨o, rfl, fun cls d H2 s ex => q1 cls d σ H2 ex (Ge.same g.env s).go⟩
/-- raise X('m'), X without own __init__ -/
theorem mk_own {k : Nat} {x m : Str} {j : Nat} {p p2 : Pos} {bmB : List Value} {B newId initId : String} (F : PySem.ExcBaseFacts B newId initId bmB) (q : PySem.W.excIn X.K (C.ca k) bmB newId = true) (gC : X.mg x = some (.ref (C.ca k))) (kC : PySem.W.keepIn X.K (.ref (C.ca k)) = true) (r : Raises X (.ref (C.ca k))) (hg : Gl X x)
    (hdb : (x == ("__debug__" : Str)) = false := by decide) :
    PMk X (.Call (.Name x p) [.Constant (.str m) j p2] [] pos) (fun σ H Q => ∃ e, EnvOk C.K H σ e ∧ fin C W σ e H (fun ds e1 H1 => ∃ o, (fun (_ : List D) => some (none : Option D)) ds = some o ∧ ∀ cls d H2, L2.Same H1 H2 → C.ex H2 cls d ⟨k, o⟩ → Q cls d H2) (evs C.T .nil e)) :=
  fun pins s σ H Q I ⟨e, E, h⟩ => pmk_own F q gC kC r hg hdb pins s σ H Q I (by
    have h : fin C W σ e H _ (.ok [] e) := h
    obtain ⟨o, ho, h2⟩ := fin.okE E h
    cases ho
    exact h2 _ _ H (Same.refl H) ⟨rfl, trivial⟩)
end
end Eng

set_option Elab.async false
set_option linter.all false
set_option maxRecDepth 100000
/-! try; the rule for a def. -/
namespace Eng
open PySem PySem.Spec L2
section
variable {X : Cx} {C : Ct} {W : WX} {body suite : List Stmt} {b₀ : Stmt} {ib : IS} {x : Str} {np pos pos' : Pos} {k : Nat} {h : Option D → IS}
theorem EnvOk.wipe1 {K : Kx} {H : Hp} {σ : Sg} {e : Sls} {i : Nat} (E : EnvOk K H σ e) (v : Option V) : EnvOk K H (σ.set i v) (e.set i .un) := by
  have mtS : ∀ (j : Nat) (p : Bool) (c : MC), (e.set i .un)[j]? = some (Slo.mt p c) → j ≠ i ∧ e[j]? = some (Slo.mt p c) := fun j p c h => set_mt (fun _ _ z => by cases z) h
  have st : ∀ {j : Nat} {w : Option V}, j ≠ i → ((σ.set i v)[j]? = some w ↔ σ[j]? = some w) := fun hj => by rw [List.getElem?_set_ne (Ne.symm hj)]
  refine ⟨by simp [E.len], fun j d h => ?_, fun j p c h => ?_, fun j k b ⟨q1, p, c, q2⟩ ⟨q3, p', c', q4⟩ => ?_, E.fix⟩
  · rcases set_get h with ⟨rfl, z, hl⟩ | ⟨hj, z⟩
    · cases z
    · obtain ⟨w, h1, h2⟩ := E.val j d z
      exact ⟨w, (st hj).mpr h1, h2⟩
  · obtain ⟨hj, h⟩ := mtS j p c h
    obtain ⟨a, o, h1, h2⟩ := E.mt j p c h
    exact ⟨a, o, (st hj).mpr h1, h2⟩
  · obtain ⟨hj, q2⟩ := mtS j p c q2
    obtain ⟨hk, q4⟩ := mtS k p' c' q4
    exact E.inj j k b ⟨(st hj).mp q1, p, c, q2⟩ ⟨(st hk).mp q3, p', c', q4⟩
theorem Go.wipe1 {K : Kx} {H H2 : Hp} {σ σ2 : Sg} {e e2 : Sls} {i : Nat} (g : Go K σ e H σ2 e2 H2) (v : Option V) : Go K σ e H (σ2.set i v) (e2.set i .un) H2 := by
  have mt1 : ∀ (j : Nat) (p : Bool) (c : MC), (e2.set i .un)[j]? = some (Slo.mt p c) → j ≠ i ∧ e2[j]? = some (Slo.mt p c) := fun j p c h => set_mt (fun _ _ z => by cases z) h
  refine ⟨g.env.wipe1 v, g.keep, fun p b ⟨j, c, h1, h2⟩ => ?_, fun j c h2 => ?_, g.there⟩
  · obtain ⟨hj, h2⟩ := mt1 j p c h2
    rw [List.getElem?_set_ne (Ne.symm hj)] at h1
    exact g.mp p b ⟨j, c, h1, h2⟩
  · obtain ⟨hj, h2⟩ := mt1 j true c h2
    rw [List.getElem?_set_ne (Ne.symm hj)]
    exact g.par j c h2
/-- try: .. except X: .. -/
theorem ss_try (hs : X.stack = X.env :: X.outer) (hf : X.env.frame = some X.env.locals) (hx : Names X x (.ref (C.ca k))) (tk : Takes X W) (hsub : ∀ j, PySem.W.exmOne X.K (.ref (C.ca j)) (.ref (C.ca k)) = some (C.T.sub j k))
    (hb : ∀ (W' : WX) (pn : List (Addr × Obj)) (xe : Value → Shared → Prop), Takes (X.tr pn xe) W' → PassesOwn (model X.prog X.w) X.A X.env xe → SSs (X.tr pn xe) C W' body ib)
    (hsu : ∀ (a : Addr) (oe : Obj) (pn : List (Addr × Obj)) (o : Option D), SSs (X.suite a ((a, oe) :: pn)) C WF (b₀ :: suite) (h o)) :
    SS X C W (.Try body [.ExceptHandler (some (.Name x np)) none (b₀ :: suite) pos'] [] [] pos) (.try ib k [] h) :=
  psImp (ps_try_only (ts := fun a cls d D σ H => ∃ o, rdS C WF (h o) D σ H) hs hf hx tk hb fun a oe cls d pn hz hfl => ⟨fun pins s σ H D I ⟨o, q⟩ => (hsu a oe pn o).run pins s σ H D I q⟩) fun D σ H ⟨e, E, q⟩ => by
    have q : finS C W D σ e H ((exS C.T ib e).tr fun x e1 => if C.T.sub x.cls k then ((exS C.T (h x.arg) e1).nox).wp [] else .exc x e1) := q
    refine ⟨e, E, ?_⟩
    cases ho : exS C.T ib e with
    | exc x e1 =>
      rw [ho] at q
      intro cls d σ1 H1 ex g
      have q : finS C W D σ e H (if C.T.sub x.cls k then ((exS C.T (h x.arg) e1).nox).wp [] else .exc x e1) := q
      refine ⟨C.T.sub x.cls k, by rw [ex.1]; exact hsub x.cls, fun ht a ha => ?_, fun hfa => ?_⟩
      · rw [ht] at q
        refine ⟨x.arg, e1, g.env, ?_⟩
        have q2 := finS.back g q
        simp only [if_true] at q2
        cases hh : exS C.T (h x.arg) e1 with
        | exc y e2 => rw [hh] at q2; exact q2.elim
        | nx e2 => rw [hh] at q2; exact q2
        | ret r e2 => rw [hh] at q2; exact q2
        | brk e2 => rw [hh] at q2; exact q2
        | cnt e2 => rw [hh] at q2; exact q2
        | stuck => rw [hh] at q2; exact q2
      · rw [hfa] at q
        exact q cls d σ1 H1 ex g
    | nx e1 => rw [ho] at q; exact q
    | ret r e1 => rw [ho] at q; exact q
    | brk e1 => rw [ho] at q; exact q
    | cnt e1 => rw [ho] at q; exact q
    | stuck => rw [ho] at q; exact q
/-- try: .. except X as n: .., the suite by hand -/
theorem ss_try_as {i : Nat} {n : Str} {ts : Addr → Value → Option Addr → TS} (hs : X.stack = X.env :: X.outer) (hf : X.env.frame = some X.env.locals) (hN : X.N.Nodup) (hi : X.N[i]? = some n) (hln : X.env.kindOf n = some .local) (hx : Names X x (.ref (C.ca k))) (tk : Takes X W)
    (hsub : ∀ j, PySem.W.exmOne X.K (.ref (C.ca j)) (.ref (C.ca k)) = some (C.T.sub j k))
    (hb : ∀ (W' : WX) (pn : List (Addr × Obj)) (xe : Value → Shared → Prop), Takes (X.tr pn xe) W' → PassesOwn (model X.prog X.w) X.A X.env xe → SSs (X.tr pn xe) C W' body ib)
    (hsu : ∀ (a : Addr) (oe : Obj) (cls : Value) (d : Option Addr) (pn : List (Addr × Obj)), Zc cls d oe → (∃ vs, oe.data = .fields vs) → PSs (X.suite a ((a, oe) :: pn)) (b₀ :: suite) (ts a cls d))
    (hts : ∀ (y : Exn) (a : Addr) (cls : Value) (d : Option Addr) (D : Ends) (σ : Sg) (e : Sls) (H : Hp), C.T.sub y.cls k = true → C.ex H cls d y → EnvOk C.K H (σ.set i (some (.ref a))) e → finS C WF D (σ.set i (some (.ref a))) e H (exS C.T (h y.arg) e) → ts a cls d D (σ.set i (some (.ref a))) H) :
    SS X C W (.Try body [.ExceptHandler (some (.Name x np)) (some n) (b₀ :: suite) pos'] [] [] pos) (.try ib k [i] h) :=
  psImp (ps_try_as hs hf hN hi hln hx tk hb hsu) fun D σ H ⟨e, E, q⟩ => by
    have q : finS C W D σ e H ((exS C.T ib e).tr fun x e1 => if C.T.sub x.cls k then ((exS C.T (h x.arg) (e1.set i .un)).nox).wp [i] else .exc x e1) := q
    refine ⟨e, E, ?_⟩
    cases ho : exS C.T ib e with
    | exc x e1 =>
      rw [ho] at q
      intro cls d σ1 H1 ex g
      have q : finS C W D σ e H (if C.T.sub x.cls k then ((exS C.T (h x.arg) (e1.set i .un)).nox).wp [i] else .exc x e1) := q
      refine ⟨C.T.sub x.cls k, by rw [ex.1]; exact hsub x.cls, fun ht a ha => ?_, fun hfa => ?_⟩
      · rw [ht] at q
        simp only [if_true] at q
        have E2 : EnvOk C.K H1 (σ1.set i (some (.ref a))) (e1.set i .un) := g.env.wipe1 _
        refine hts x a cls d _ σ1 (e1.set i .un) H1 ht ex E2 ?_
        have gw := g.wipe1 (i := i) (some (V.ref a))
        cases hh : exS C.T (h x.arg) (e1.set i .un) with
        | exc y e2 => rw [hh] at q; exact q.elim
        | stuck => rw [hh] at q; exact q
        | nx e2 => rw [hh] at q; exact fun σ2 H2 g2 => q _ H2 ((gw.trans g2).wipe1 none)
        | brk e2 => rw [hh] at q; exact fun σ2 H2 g2 => q _ H2 ((gw.trans g2).wipe1 none)
        | cnt e2 => rw [hh] at q; exact fun σ2 H2 g2 => q _ H2 ((gw.trans g2).wipe1 none)
        | ret r e2 => rw [hh] at q; exact fun σ2 H2 v g2 rv => q _ H2 v ((gw.trans g2).wipe1 none) (rv.back gw)
      · rw [hfa] at q
        exact q cls d σ1 H1 ex g
    | nx e1 => rw [ho] at q; exact q
    | ret r e1 => rw [ho] at q; exact q
    | brk e1 => rw [ho] at q; exact q
    | cnt e1 => rw [ho] at q; exact q
    | stuck => rw [ho] at q; exact q
end
end Eng

set_option Elab.async false
set_option linter.all false
set_option maxRecDepth 100000
/-! The rule for a def: its body's code keeps the promise. -/
namespace Eng
open PySem PySem.Spec L2
theorem backA_ok : ∀ {ar e ar' : Sls}, backA ar e = some ar' → ar'.length = ar.length ∧ (∀ (j : Nat) (p : Bool) (c : MC), ar[j]? = some (Slo.mt p c) → ∃ c', ar'[j]? = some (Slo.mt true c') ∧ c'.isL = c.isL) ∧
    ∀ (j : Nat) (p : Bool) (c : MC), ar'[j]? = some (Slo.mt p c) → (∃ q c0, ar[j]? = some (Slo.mt q c0)) → e[j]? = some (Slo.mt true c)
  | [], e, ar', h => by
    cases e <;> cases h <;> exact ⟨rfl, fun j p c z => by simp at z, fun j p c z => by simp at z⟩
  | s :: ar, [], ar', h => by cases s <;> cases h
  | .mt p0 c0 :: ar, .un :: e, ar', h => by cases h
  | .mt p0 c0 :: ar, .val _ :: e, ar', h => by cases h
  | .mt p0 c0 :: ar, .mt false _ :: e, ar', h => by cases h
  | .mt p0 c0 :: ar, .mt true c :: e, ar', h => by
    have h : (if c.isL = c0.isL then (backA ar e).map fun r => Slo.mt true c :: r else none) = some ar' := h
    split at h
    · rename_i hk
      obtain ⟨r, h1, h2⟩ := Option.map_eq_some_iff.mp h
      subst h2
      obtain ⟨a1, a2, a3⟩ := backA_ok h1
      refine ⟨by simp [a1], fun j p c' z => ?_, fun j p c' z y => ?_⟩
      · cases j with
        | zero => simp at z; obtain ⟨_, rfl⟩ := z; exact ⟨c, by simp, hk⟩
        | succ j => simpa using a2 j p c' (by simpa using z)
      · cases j with
        | zero => simp at z; obtain ⟨_, rfl⟩ := z; simp
        | succ j => simpa using a3 j p c' (by simpa using z) (by simpa using y)
    · cases h
  | .un :: ar, t :: e, ar', h => by
    obtain ⟨r, h1, h2⟩ := Option.map_eq_some_iff.mp (show (backA ar e).map (fun r => Slo.un :: r) = some ar' from h)
    subst h2
    obtain ⟨a1, a2, a3⟩ := backA_ok h1
    refine ⟨by simp [a1], fun j p c' z => ?_, fun j p c' z y => ?_⟩
    · cases j with
      | zero => simp at z
      | succ j => simpa using a2 j p c' (by simpa using z)
    · cases j with
      | zero => simp at z
      | succ j => simpa using a3 j p c' (by simpa using z) (by simpa using y)
  | .val d :: ar, t :: e, ar', h => by
    obtain ⟨r, h1, h2⟩ := Option.map_eq_some_iff.mp (show (backA ar e).map (fun r => Slo.val d :: r) = some ar' from h)
    subst h2
    obtain ⟨a1, a2, a3⟩ := backA_ok h1
    refine ⟨by simp [a1], fun j p c' z => ?_, fun j p c' z y => ?_⟩
    · cases j with
      | zero => simp at z
      | succ j => simpa using a2 j p c' (by simpa using z)
    · cases j with
      | zero => simp at z
      | succ j => simpa using a3 j p c' (by simpa using z) (by simpa using y)
section
variable {K : Kx} {N : List Str} {vs : List V} {ar : Sls} {H : Hp}
def startE (N : List Str) (ar : Sls) : Sls := ar ++ List.replicate (N.length - ar.length) .un
theorem startE_at {j : Nat} {s : Slo} (h : (startE N ar)[j]? = some s) (hs : s ≠ .un) : ar[j]? = some s := by
  unfold startE at h
  by_cases hj : j < ar.length
  · rw [List.getElem?_append_left hj] at h
    exact h
  · rw [List.getElem?_append_right (by omega), List.getElem?_replicate] at h
    split at h
    · cases h; exact absurd rfl hs
    · cases h
theorem start_at {j : Nat} {v : V} : (L2.start N vs)[j]? = some (some v) ↔ vs[j]? = some v := by
  unfold L2.start
  by_cases hj : j < vs.length
  · rw [List.getElem?_append_left (by simpa using hj), List.getElem?_map]
    cases e : vs[j]? with
    | none => simp
    | some w => simp
  · rw [List.getElem?_append_right (by simpa using hj), List.getElem?_replicate, List.getElem?_eq_none (by omega)]
    constructor
    · intro h
      split at h <;> cases h
    · intro h; cases h
theorem start_mw {b : Addr} (m : Mw (L2.start N vs) (startE N ar) b) : Mw (vs.map some) ar b := by
  obtain ⟨j, h1, p, c, h2⟩ := m
  exact ⟨j, map_some_get (start_at.mp h1), p, c, startE_at h2 (by simp)⟩
theorem start_env (E : EnvOk K H (vs.map some) ar) (hn : vs.length ≤ N.length) : EnvOk K H (L2.start N vs) (startE N ar) := by
  have hl : vs.length = ar.length := by simpa using E.len
  refine ⟨?_, fun j d h => ?_, fun j p c h => ?_, fun i j a ⟨h1, p, c, h2⟩ ⟨h3, p', c', h4⟩ => ?_, E.fix⟩
  · unfold L2.start startE
    simp [hl]
  · obtain ⟨v, h1, h2⟩ := E.val j d (startE_at h (by simp))
    exact ⟨v, start_at.mpr (of_map_some h1), h2⟩
  · obtain ⟨a, o, h1, h2⟩ := E.mt j p c (startE_at h (by simp))
    exact ⟨a, o, start_at.mpr (of_map_some h1), h2⟩
  · exact E.inj i j a ⟨map_some_get (start_at.mp h1), _, _, startE_at h2 (by simp)⟩ ⟨map_some_get (start_at.mp h3), _, _, startE_at h4 (by simp)⟩
theorem aft_of {σ' : Sg} {e' ar' : Sls} {H' : Hp} (g : Go K (L2.start N vs) (startE N ar) H σ' e' H') (hb : backA ar e' = some ar') : Aft K vs ar H ar' H' := by
  obtain ⟨a1, a2, a3⟩ := backA_ok hb
  refine ⟨⟨a1, a2⟩, fun b o h n => g.keep b o h fun m => n (start_mw m), fun j p c h z => ?_⟩
  have h' := a3 j p c h z
  obtain ⟨a, o, h1, h2, h3⟩ := g.env.mt j true c h'
  rw [(g.par j c h').2] at h1
  exact ⟨a, o, start_at.mp h1, h2, h3⟩
end
section
variable {P : Program} {w : World} {K : PySem.W.Frag} {mg : Str → Option Value} {base : Heap} {C : Ct} {lv k f : Nat} {fd : FuncData} {st : Stmt} {x qual : Str} {N ps : List Str} {T' : Tab} {ir : IS}
/-- THE RULE: as the hand layer's, and nothing is being shown -/
theorem fn_ok {np : Nat} (F : Fun K x qual st f fd) (S : FnScope N ps (defScope st)) (hnp : ps.length = np) (hN : np ≤ N.length) (hT : T'.run k = runB C.T np N.length ir)
    (hb : ∀ (cdv : Value) (A : Around) (outer : List PySem.Env) (s : Shared) (H : Hp) (E : XK), (A.deeper (PyProof.Rows.envOfC qual (defScope st) s.heap.objs.size f cdv)).guards = some [] → Room lv (A.deeper (PyProof.Rows.envOfC qual (defScope st) s.heap.objs.size f cdv)) →
      SSs (cxOf (L2.CX P w) P w K mg base N qual (defScope st) f cdv A outer s H E) C (fun cls d _ H => E cls d H) (defBody st) ir) :
    FnG P w K mg base (lv + 1) f fd ps (spC { C with T := T' } k) := by
  have len : ∀ vs H Q E, spC { C with T := T' } k vs H Q E → vs.length = ps.length := fun vs H Q E h => by
    obtain ⟨ar, E1, ht, q⟩ := h
    have q : fEnd _ vs ar H Q E (T'.run k ar) := q
    rw [hT] at q
    unfold runB at q
    by_cases hl : ar.length ≠ np
    · rw [if_pos hl] at q; exact q.elim
    · have := E1.len
      rw [List.length_map] at this
      omega
  have body : ∀ vs H Q E, spC { C with T := T' } k vs H Q E → rdS C (fun cls d _ H => E cls d H) ir { nx := fun _ H' => Q .non H', rt := Q } (L2.start N vs) H := fun vs H Q E h => by
    obtain ⟨ar, E1, ht, q⟩ := h
    have q : fEnd _ vs ar H Q E (T'.run k ar) := q
    rw [hT] at q
    unfold runB at q
    by_cases hl : ar.length ≠ np
    · rw [if_pos hl] at q; exact q.elim
    · rw [if_neg hl] at q
      have hlen : ar.length = np := by omega
      have hvl : vs.length = ar.length := by simpa using E1.len
      have e0 : ar ++ List.replicate (N.length - ar.length) Slo.un = startE N ar := rfl
      rw [e0] at q
      have noF : ∀ a, ¬ Mp false (L2.start N vs) (startE N ar) a := fun a ⟨j, c, h1, h2⟩ => by
        have := ht j false c (startE_at h2 (by simp))
        cases this
      refine ⟨startE N ar, start_env E1 (by omega), ?_⟩
      cases ho : exS C.T ir (startE N ar) with
      | stuck => rw [ho] at q; exact q.elim
      | brk e' => rw [ho] at q; exact q.elim
      | cnt e' => rw [ho] at q; exact q.elim
      | nx e' =>
        rw [ho] at q
        intro σ' H' g
        cases hbk : backA ar e' with
        | none => simp only [hbk] at q; exact q.elim
        | some ar' => simp only [hbk] at q; exact q .non H' (aft_of g hbk) .non
      | ret r e' =>
        rw [ho] at q
        intro σ' H' v g rv
        cases hbk : backA ar e' with
        | none => simp only [hbk] at q; exact q.elim
        | some ar' =>
          simp only [hbk] at q
          refine q v H' (aft_of g hbk) ?_
          cases r with
          | v d => exact rv
          | fr c =>
            obtain ⟨a, o, e1, h0, ha, m⟩ := rv
            exact ⟨a, o, e1, h0.elim id fun z => absurd z (noF a), ha, m⟩
      | exc y e' =>
        rw [ho] at q
        intro cls d σ' H' ex g
        cases hbk : backA ar e' with
        | none => simp only [hbk] at q; exact q.elim
        | some ar' => simp only [hbk] at q; exact q cls d H' (aft_of g hbk) ex
  refine ⟨len, fun A outer s H args us vs Q E hgd hr e0 hbd r hsp => ?_⟩
  obtain ⟨oc, od, kV, doc, pm, an, cdv, ct, osl, rfl, lk, hcd⟩ := F.ex
  have KX : K.In s.heap := e0.mod.kin.keeps fun b o e => (e0.bs b o e).1
  have lim : s.heap.NoLimit := e0.mod.nolimit.keeps fun b o e => (e0.bs b o e).1
  have kinds : ∀ y ∈ ps.zip us, (defScope st).names.lookup y.1 = some .local ∨ ((defScope st).names.lookup y.1 = some .cell ∧ ((PySem.cellsFrom (s.heap.objs.size + 1) (defScope st).names []).lookup y.1).isSome = true) := fun ⟨n, v⟩ hy => by
    rcases S.par n (List.of_mem_zip hy).1 with q | q
    · exact .inl q
    · exact .inr ⟨q, PySem.W.cellsFrom_some _ _ _ (.inl q)⟩
  have opened := PySem.W.codeRec_of KX hcd
  refine codeAny_call_function hr.depth (KX _ _ lk) rfl S.co S.gen rfl opened (hbd _ _ _ _ (wpAny_newFunctionEnv_cells S.kind kinds fun env he s1 x => ?_))
  subst he
  refine ⟨lim.keeps x.toInCall.keep, codeAny_func ?_⟩
  have hl := len _ _ _ _ hsp
  have I := inv_start (CX := L2.CX P w) (E := E) S hr.hd e0 hl r x
  have run := (hb cdv A outer s H E hgd (hr.deeper _)).run [] s1 _ H _ I (body vs H Q E hsp)
  refine wpAny_mono run (fun fl s' hs => ?_) fun e s' hs => hs
  cases fl with
  | ret u =>
    obtain ⟨v, σ', H', J, rv, q⟩ := hs
    exact ⟨v, H', J.os, J.bare, J.base, J.hok, rv, q⟩
  | next =>
    obtain ⟨σ', H', J, q⟩ := hs
    exact ⟨.non, H', J.os, J.bare, J.base, J.hok, rfl, q⟩
  | brk => obtain ⟨_, _, _, q⟩ := hs; exact q.elim
  | cont => obtain ⟨_, _, _, q⟩ := hs; exact q.elim
end
end Eng

set_option Elab.async false
set_option linter.all false
set_option maxRecDepth 100000
/-! Operators and built-in functions on data. -/
namespace Eng
open PySem PySem.Spec L2

/-! ### what they give -/
def okMul (i j : Int) : Bool := decide (i.natAbs.log2 + j.natAbs.log2 < 1000000)
def okDiv (j : Int) : Bool := decide (j ≠ 0) && decide (j.natAbs.log2 < 9000)
def pAdd : List D → Option D
  | [.int i, .int j] => some (.int (i + j))
  | [.str x, .str y] => if x.length + y.length ≤ 16777216 then some (.str (x ++ y)) else none
  | [.lst x, .lst y] => if x.length + y.length ≤ 16777216 then some (.lst (x ++ y)) else none
  | [.tup x, .tup y] => if x.length + y.length ≤ 16777216 then some (.tup (x ++ y)) else none
  | _ => none
def pSub : List D → Option D
  | [.int i, .int j] => some (.int (i - j))
  | _ => none
def pMul : List D → Option D
  | [.int i, .int j] => if okMul i j then some (.int (i * j)) else none
  | _ => none
def pDiv : List D → Option D
  | [.int i, .int j] => if okDiv j then some (.int (i.fdiv j)) else none
  | _ => none
def pMod : List D → Option D
  | [.int i, .int j] => if j ≠ 0 then some (.int (i.fmod j)) else none
  | _ => none
def pPow : List D → Option D
  | [.int i, .int j] => if 0 ≤ j ∧ j ≤ 1000000 ∧ i.natAbs < 2 ^ 64 then some (.int (i ^ j.toNat)) else none
  | _ => none
def pNeg : List D → Option D
  | [.int i] => some (.int (-i))
  | _ => none
def pLt : List D → Option D
  | [.int i, .int j] => some (.bl (decide (i < j)))
  | _ => none
def pLe : List D → Option D
  | [.int i, .int j] => some (.bl (decide (i ≤ j)))
  | _ => none
def pGt : List D → Option D
  | [.int i, .int j] => some (.bl (decide (j < i)))
  | _ => none
def pGe : List D → Option D
  | [.int i, .int j] => some (.bl (decide (j ≤ i)))
  | _ => none
/-- data that == may be asked of -/
def D.shp (d : D) : Bool := d.plain && SeqAt.shaped d.py
def D.eqv (a b : D) : Bool := PyData.eqv a.py b.py
def pEq : List D → Option D
  | [.str x, .str y] => some (.bl (x == y))
  | [a, b] => if a.shp && b.shp then some (.bl (a.eqv b)) else none
  | _ => none
def pNe : List D → Option D
  | [.str x, .str y] => some (.bl (!(x == y)))
  | [a, b] => if a.shp && b.shp then some (.bl (!(a.eqv b))) else none
  | _ => none
def D.isN : D → Bool
  | .non => true
  | _ => false
def pIsN : List D → Option D
  | [a, .non] => some (.bl a.isN)
  | _ => none
def pNotN : List D → Option D
  | [a, .non] => some (.bl (!a.isN))
  | _ => none

section
variable {K : Kx} {H : Hp}
theorem fd2 {a b : V} {ds : List D} (h : Fds K H [a, b] ds) : ∃ d e, ds = [d, e] ∧ Fd K H a d ∧ Fd K H b e := by
  cases h with
  | cons r t =>
    cases t with
    | cons r2 t2 => cases t2; exact ⟨_, _, rfl, r, r2⟩
theorem fd1 {vs : List V} {d : D} (h : Fds K H vs [d]) : ∃ v, vs = [v] ∧ Fd K H v d := by
  cases h with
  | cons r t => cases t; exact ⟨_, rfl, r⟩
theorem fdn {vs : List V} (h : Fds K H vs []) : vs = [] := by cases h; rfl
theorem fd22 {vs : List V} {d e : D} (h : Fds K H vs [d, e]) : ∃ v u, vs = [v, u] ∧ Fd K H v d ∧ Fd K H u e := by
  cases h with
  | cons r t =>
    obtain ⟨u, rfl, r2⟩ := fd1 t
    exact ⟨_, _, rfl, r, r2⟩
end
section
variable {X : Cx} {C : Ct}
/-- two ints in, a value out -/
theorem opII {f : Value → Value → Sem Value} {p : List D → Option D} {r : R2} (ho : OpR X f r)
    (hp : ∀ a b d, p [a, b] = some d → ∃ i j, a = .int i ∧ b = .int j ∧ ∀ H (Q : VK), (∀ v, Fd C.K H v d → Q v H) → r (.int i) (.int j) H Q) : OpR X f (rOp C p) := by
  intro pins s σ H x y v u Q I rx ry ⟨d1, d2, d, r1, r2, hf, q⟩
  obtain ⟨i, j, rfl, rfl, k⟩ := hp d1 d2 d hf
  cases r1
  cases r2
  exact ho pins s σ H _ _ v u Q I rx ry (k H Q fun v r => q v H (Same.refl H) r)
theorem ii_of {p : List D → Option D} {g : Int → Int → D} {c : Int → Int → Bool} (hp : ∀ a b d, p [a, b] = some d → ∃ i j, a = .int i ∧ b = .int j ∧ c i j = true ∧ d = g i j) :
    ∀ a b d, p [a, b] = some d → ∃ i j, a = .int i ∧ b = .int j ∧ c i j = true ∧ d = g i j := hp
theorem o_sub : OpR X (binaryOp .Sub) (rOp C pSub) := opII op_sub fun a b d h => by
  unfold pSub at h
  split at h
  · rename_i e
    cases e
    cases h
    exact ⟨_, _, rfl, rfl, fun H Q q => ⟨_, _, rfl, rfl, q _ (.int _)⟩⟩
  · cases h
theorem o_mul : OpR X (binaryOp .Mult) (rOp C pMul) := opII op_mulW fun a b d h => by
  unfold pMul at h
  split at h
  · rename_i e
    cases e
    split at h
    · rename_i hc
      cases h
      unfold okMul at hc
      rw [decide_eq_true_eq] at hc
      exact ⟨_, _, rfl, rfl, fun H Q q => ⟨_, _, rfl, rfl, hc, q _ (.int _)⟩⟩
    · cases h
  · cases h
theorem o_mod : OpR X (binaryOp .Mod) (rOp C pMod) := opII op_modN fun a b d h => by
  unfold pMod at h
  split at h
  · rename_i e
    cases e
    split at h
    · rename_i hc
      cases h
      exact ⟨_, _, rfl, rfl, fun H Q q => ⟨_, _, rfl, rfl, hc, q _ (.int _)⟩⟩
    · cases h
  · cases h
/-- // by a divisor of either sign, below 2 ^ 9000 -/
theorem op_fdivA : OpR X (binaryOp .FloorDiv) (rI (fun _ j => j ≠ 0 ∧ j.natAbs.log2 < 9000) fun i j => .int (i.fdiv j)) := opI fun i j _ _ _ _ _ hc q => PyProof.Rows.floordiv_int hc.1 q (.inl (PyProof.noPylong_of_log2 hc.2))
theorem o_div : OpR X (binaryOp .FloorDiv) (rOp C pDiv) := opII op_fdivA fun a b d h => by
  unfold pDiv at h
  split at h
  · rename_i e
    cases e
    split at h
    · rename_i hc
      cases h
      unfold okDiv at hc
      rw [Bool.and_eq_true, decide_eq_true_eq, decide_eq_true_eq] at hc
      exact ⟨_, _, rfl, rfl, fun H Q q => ⟨_, _, rfl, rfl, hc, q _ (.int _)⟩⟩
    · cases h
  · cases h
theorem o_pow : OpR X (binaryOp .Pow) (rOp C pPow) := opII op_pow fun a b d h => by
  unfold pPow at h
  split at h
  · rename_i e
    cases e
    split at h
    · rename_i hc
      cases h
      exact ⟨_, _, rfl, rfl, fun H Q q => ⟨_, _, rfl, rfl, hc, q _ (.int _)⟩⟩
    · cases h
  · cases h
theorem o_lt : OpR X (compareOp .Lt) (rOp C pLt) := opII op_lt fun a b d h => by
  unfold pLt at h
  split at h
  · rename_i e
    cases e
    cases h
    exact ⟨_, _, rfl, rfl, fun H Q q => ⟨_, _, rfl, rfl, q _ (.bl _)⟩⟩
  · cases h
theorem o_le : OpR X (compareOp .LtE) (rOp C pLe) := opII op_le fun a b d h => by
  unfold pLe at h
  split at h
  · rename_i e
    cases e
    cases h
    exact ⟨_, _, rfl, rfl, fun H Q q => ⟨_, _, rfl, rfl, q _ (.bl _)⟩⟩
  · cases h
theorem o_gt : OpR X (compareOp .Gt) (rOp C pGt) := opII op_gt fun a b d h => by
  unfold pGt at h
  split at h
  · rename_i e
    cases e
    cases h
    exact ⟨_, _, rfl, rfl, fun H Q q => ⟨_, _, rfl, rfl, q _ (.bl _)⟩⟩
  · cases h
theorem o_ge : OpR X (compareOp .GtE) (rOp C pGe) := opII op_ge fun a b d h => by
  unfold pGe at h
  split at h
  · rename_i e
    cases e
    cases h
    exact ⟨_, _, rfl, rfl, fun H Q q => ⟨_, _, rfl, rfl, q _ (.bl _)⟩⟩
  · cases h
theorem o_neg : UnR X (unaryOp .USub) (rUn C pNeg) := by
  intro pins s σ H x v Q I rx ⟨d1, d, r1, hf, q⟩
  unfold pNeg at hf
  split at hf
  · rename_i e
    cases e
    cases hf
    cases r1
    exact un_neg pins s σ H _ v Q I rx ⟨_, rfl, q _ H (Same.refl H) (.int _)⟩
  · cases hf
theorem o_eq (kk : C.K.k = X.K) (hu : X.A.units + 64 < cLine) : OpR X (compareOp .Eq) (rOp C pEq) := by
  intro pins s σ H x y v u Q I rx ry ⟨d1, d2, d, r1, r2, hf, q⟩
  by_cases hs : ∃ x y, d1 = .str x ∧ d2 = .str y
  · obtain ⟨i, j, rfl, rfl⟩ := hs
    cases hf
    cases r1
    cases r2
    refine op_eq pins s σ H _ _ v u Q I rx ry ⟨rfl, ?_⟩
    rw [dec_str]
    exact q _ H (Same.refl H) (.bl _)
  have hf : (if (d1.shp && d2.shp) = true then some (D.bl (d1.eqv d2)) else none) = some d := by
    unfold pEq at hf
    split at hf
    · rename_i e
      cases e
      exact absurd ⟨_, _, rfl, rfl⟩ hs
    · rename_i _ e
      cases e
      exact hf
    · rename_i h1
      exact absurd rfl (h1 _ _)
  by_cases hc : (d1.shp && d2.shp) = true
  · rw [if_pos hc] at hf
    cases hf
    rw [Bool.and_eq_true] at hc
    unfold D.shp at hc
    rw [Bool.and_eq_true, Bool.and_eq_true] at hc
    exact op_eqD hu pins s σ H x y v u Q I rx ry ⟨_, _, kk ▸ r1.dp hc.1.1, kk ▸ r2.dp hc.2.1, hc.1.2, hc.2.2, q _ H (Same.refl H) (.bl _)⟩
  · rw [if_neg hc] at hf
    cases hf
theorem o_ne (kk : C.K.k = X.K) (hu : X.A.units + 64 < cLine) : OpR X (compareOp .NotEq) (rOp C pNe) := by
  intro pins s σ H x y v u Q I rx ry ⟨d1, d2, d, r1, r2, hf, q⟩
  by_cases hs : ∃ x y, d1 = .str x ∧ d2 = .str y
  · obtain ⟨i, j, rfl, rfl⟩ := hs
    cases hf
    cases r1
    cases r2
    refine op_ne pins s σ H _ _ v u Q I rx ry ⟨rfl, ?_⟩
    rw [dec_str]
    exact q _ H (Same.refl H) (.bl _)
  have hf : (if (d1.shp && d2.shp) = true then some (D.bl (!(d1.eqv d2))) else none) = some d := by
    unfold pNe at hf
    split at hf
    · rename_i e
      cases e
      exact absurd ⟨_, _, rfl, rfl⟩ hs
    · rename_i _ e
      cases e
      exact hf
    · rename_i h1
      exact absurd rfl (h1 _ _)
  by_cases hc : (d1.shp && d2.shp) = true
  · rw [if_pos hc] at hf
    cases hf
    rw [Bool.and_eq_true] at hc
    unfold D.shp at hc
    rw [Bool.and_eq_true, Bool.and_eq_true] at hc
    exact op_neD hu pins s σ H x y v u Q I rx ry ⟨_, _, kk ▸ r1.dp hc.1.1, kk ▸ r2.dp hc.2.1, hc.1.2, hc.2.2, q _ H (Same.refl H) (.bl _)⟩
  · rw [if_neg hc] at hf
    cases hf
theorem isN_iff {K : Kx} {H : Hp} {v : V} {d : D} (r : Fd K H v d) : decide (v = .non) = d.isN := by
  cases r <;> first
    | rfl
    | (unfold D.isN; simp)
theorem o_isN : OpR X (compareOp .Is) (rOp C pIsN) := by
  intro pins s σ H x y v u Q I rx ry ⟨d1, d2, d, r1, r2, hf, q⟩
  unfold pIsN at hf
  split at hf
  · rename_i e
    cases e
    cases hf
    cases r2
    exact op_isN pins s σ H x _ v u Q I rx ry ⟨rfl, q _ H (Same.refl H) (by rw [isN_iff r1]; exact .bl _)⟩
  · cases hf
theorem o_notN : OpR X (compareOp .IsNot) (rOp C pNotN) := by
  intro pins s σ H x y v u Q I rx ry ⟨d1, d2, d, r1, r2, hf, q⟩
  unfold pNotN at hf
  split at hf
  · rename_i e
    cases e
    cases hf
    cases r2
    exact op_notN pins s σ H x _ v u Q I rx ry ⟨rfl, q _ H (Same.refl H) (by rw [isN_iff r1]; exact .bl _)⟩
  · cases hf
/-- a locked list's object -/
theorem lstF {pins : List (Addr × Obj)} {σ : Sg} {H : Hp} {s : Shared} {a : Addr} {xs : List V} (kk : C.K.k = X.K) (I : Inv X pins σ H s) (h : FzL C.K H a xs) : ∃ (its : List Value) (n : Nat), Vals xs its ∧ xs.length ≤ sizeLine ∧ s.heap.get? a = some { cls := .type "list", data := .seq its.toArray n } := by
  rcases h with ⟨o, h⟩ | ⟨its, n, h, hl, r⟩
  · obtain ⟨e, z, its, n, r, e2⟩ := I.hok a _ h
    exact ⟨its, n, r, z, e2⟩
  · exact ⟨its, n, r, by rw [r.length]; exact hl, I.kIn a _ (kk ▸ h)⟩
theorem o_add (kk : C.K.k = X.K) : OpR X (binaryOp .Add) (rOp C pAdd) := by
  intro pins s σ H x y v u Q I rx ry ⟨d1, d2, d, r1, r2, hf, q⟩
  unfold pAdd at hf
  split at hf
  · rename_i e
    cases e
    cases hf
    cases r1
    cases r2
    exact op_add pins s σ H _ _ v u Q I rx ry ⟨_, _, rfl, rfl, q _ H (Same.refl H) (.int _)⟩
  · rename_i e
    cases e
    split at hf
    · rename_i hz
      cases hf
      cases r1
      cases r2
      exact op_add_str pins s σ H _ _ v u Q I rx ry ⟨_, _, rfl, rfl, sz_ge hz, q _ H (Same.refl H) (.str _)⟩
    · cases hf
  · rename_i e
    cases e
    split at hf
    · rename_i hz
      cases hf
      cases r1 with
      | lst h1 k1 =>
        cases r2 with
        | lst h2 k2 =>
          cases rx
          cases ry
          obtain ⟨its, n, v1, _, e1⟩ := lstF kk I h1
          obtain ⟨its2, n2, v2, _, e2⟩ := lstF kk I h2
          have hl : its.toArray.size + its2.toArray.size ≤ sizeLine := by
            rw [List.size_toArray, List.size_toArray, ← v1.length, ← v2.length, k1.length, k2.length]
            exact sz_ge hz
          refine PySem.P.add_list e1 e2 ?_ hl
          have ea : its.toArray ++ its2.toArray = (its ++ its2).toArray := by simp
          rw [ea]
          have hn := I.fresh
          refine EP.frz ⟨.ref _, _, I.lnew (t' := s.toks) (v1.append v2) (by rw [List.length_append, k1.length, k2.length]; exact sz_ge hz), rfl, .inr ⟨_, _, rfl, upd_same, trivial, fun o => ?_⟩⟩
          rw [upd_upd]
          exact q _ _ (upd_sameH hn) (.lst (.inl ⟨o, upd_same⟩) ((k1.append k2).kt (KT.same (upd_sameH hn))))
    · cases hf
  · rename_i e
    cases e
    split at hf
    · rename_i hz
      cases hf
      cases r1 with
      | tup h1 k1 =>
        cases r2 with
        | tup h2 k2 =>
          refine op_catA pins s σ H _ _ v u Q I rx ry ⟨_, _, _, _, rfl, rfl, kk ▸ h1, kk ▸ h2, by rw [k1.length, k2.length]; exact sz_ge hz, fun e => ?_, fun _ e => ?_, fun _ _ p hn => ?_⟩
          · subst e
            cases k1
            exact q _ H (Same.refl H) (.tup h2 k2)
          · subst e
            cases k2
            rw [List.append_nil] at q
            exact q _ H (Same.refl H) (.tup h1 k1)
          · exact q _ _ (upd_sameH hn) (.tup (.inl (.inl upd_same)) ((k1.append k2).kt (KT.same (upd_sameH hn))))
    · cases hf
  · cases hf
end
end Eng

set_option Elab.async false
set_option linter.all false
set_option maxRecDepth 100000
/-! Built-in functions and methods on data, items, slices. -/
namespace Eng
open PySem PySem.Spec L2

/-! ### what they give -/
def pLen : List D → Option D
  | [.str x] => if x.length ≤ 16777216 then some (.int x.length) else none
  | [.lst xs] => some (.int xs.length)
  | [.tup xs] => some (.int xs.length)
  | _ => none
def pAbs : List D → Option D
  | [.int i] => some (.int i.natAbs)
  | _ => none
def pInt : List D → Option D
  | [.int i] => some (.int i)
  | [.bl b] => some (.int (if b then 1 else 0))
  | [.str x] => if x.length ≤ 640 then (intText? x).map .int else none
  | _ => none
def okStr (i : Int) : Bool := decide (i.natAbs.log2 < 1920)
def pStr : List D → Option D
  | [.int i] => if okStr i then some (.str (toString i)) else none
  | [.str x] => some (.str x)
  | _ => none
def D.bls : List D → Option (List Bool)
  | [] => some []
  | .bl b :: r => (D.bls r).map (b :: ·)
  | _ :: _ => none
def pAll : List D → Option D
  | [.lst xs] => (D.bls xs).map fun bs => .bl (bs.all id)
  | _ => none
def pAny : List D → Option D
  | [.lst xs] => (D.bls xs).map fun bs => .bl (bs.any id)
  | _ => none
def pTuple : List D → Option D
  | [.lst xs] => some (.tup xs)
  | [.tup xs] => some (.tup xs)
  | _ => none
def pList : List D → Option D
  | [.lst xs] => some (.lst xs)
  | [.tup xs] => some (.lst xs)
  | _ => none
/-- the type's name -/
def D.ty : D → Option String
  | .non => some "NoneType"
  | .bl _ => some "bool"
  | .int _ => some "int"
  | .str _ => some "str"
  | .lst _ => some "list"
  | .tup _ => some "tuple"
  | .dct _ _ => some "dict"
  | .fn _ => none
def pIsi (T : String) : List D → Option D
  | [d] => (d.ty.bind fun t => kitB t T).map .bl
  | _ => none
def pIx : List D → Option D
  | [.lst xs, .int i] => atI xs i
  | [.tup xs, .int i] => atI xs i
  | [.str z, .int i] => if z.length ≤ 16777216 then (atI z.cps.toList i).map fun c => .str ⟨#[c]⟩ else none
  | _ => none
def cutD (xs : List D) (lo hi : Option Int) : List D := (xs.drop (HT.sIx xs.length 0 lo)).take (HT.sIx xs.length xs.length hi - HT.sIx xs.length 0 lo)
def slD (lo hi : Option Int) : D → Option D
  | .str z => if z.length ≤ 16777216 then some (.str (cutS z lo hi)) else none
  | .lst xs => some (.lst (cutD xs lo hi))
  | .tup xs => some (.tup (cutD xs lo hi))
  | _ => none
/-- x[:], x[a:], x[:b], x[a:b] -/
def pSl00 : List D → Option D
  | [x] => slD none none x
  | _ => none
def pSl10 : List D → Option D
  | [x, .int a] => slD (some a) none x
  | _ => none
def pSl01 : List D → Option D
  | [x, .int b] => slD none (some b) x
  | _ => none
def pSl11 : List D → Option D
  | [x, .int a, .int b] => slD (some a) (some b) x
  | _ => none
def pIn : List D → Option D
  | [.str x, .str z] => some (.bl (!(Builtin.Str.occurrences z x 0 z.length 1).isEmpty))
  | [d, .lst ds] => if d.shp && (D.lst ds).shp then some (.bl (ds.any fun z => z.eqv d)) else none
  | _ => none
def pNotIn : List D → Option D
  | [.str x, .str z] => some (.bl (!(!(Builtin.Str.occurrences z x 0 z.length 1).isEmpty)))
  | [d, .lst ds] => if d.shp && (D.lst ds).shp then some (.bl (!ds.any fun z => z.eqv d)) else none
  | _ => none
def pSplit : List D → Option D
  | [.str a, .str b] => if (b.length == 0) = false ∧ a.length + 2 ≤ 16777216 then some (.lst ((Txt.split a b).map .str)) else none
  | _ => none
def pPart : List D → Option D
  | [.str a, .str b] => if (b.length == 0) = false ∧ a.length ≤ 16777216 then some (.tup [.str (Txt.partition a b).1, .str (Txt.partition a b).2.1, .str (Txt.partition a b).2.2]) else none
  | _ => none

section
variable {K : Kx} {H : Hp}
theorem Fds.bls {H : Hp} : ∀ {vs : List V} {ds : List D} {bs : List Bool}, Fds K H vs ds → D.bls ds = some bs → vs = bs.map V.bl
  | [], _, bs, h, e => by cases h; cases e; rfl
  | v :: vs, _, bs, h, e => by
    cases h with
    | cons a b =>
      cases a <;> first
        | cases e
        | (unfold D.bls at e
           obtain ⟨bs', h1, h2⟩ := Option.map_eq_some_iff.mp e
           subst h2
           rw [Fds.bls b h1]
           rfl)
theorem Fds.strs {H : Hp} : ∀ (ys : List Str), Fds K H (ys.map V.str) (ys.map D.str)
  | [] => .nil
  | y :: ys => .cons (.str y) (Fds.strs ys)
theorem Fds.cut {H : Hp} {vs : List V} {ds : List D} (h : Fds K H vs ds) (lo hi : Option Int) : Fds K H (cutV vs lo hi) (cutD ds lo hi) := by
  unfold cutV cutD
  rw [h.length]
  exact (h.drop _).take _
end
section
variable {X : Cx} {C : Ct} {W : WX}
theorem fz_new {K : Kx} {H : Hp} {p : Addr} {vs : List V} {ds : List D} {Q : VK} (hp : H p = none) (r : Fds K H vs ds) (q : ∀ v H', Same H H' → Fd K H' v (.lst ds) → Q v H') : Fz Q (.ref p) (upd H p (.lst vs)) := by
  refine .inr ⟨p, _, rfl, upd_same, trivial, fun o => ?_⟩
  rw [upd_upd]
  exact q _ _ (upd_sameH hp) (.lst (.inl ⟨o, upd_same⟩) (r.kt (KT.same (upd_sameH hp))))
theorem tup_new {K : Kx} {H : Hp} {p : Addr} {vs : List V} {ds : List D} {Q : VK} (hp : H p = none) (r : Fds K H vs ds) (q : ∀ v H', Same H H' → Fd K H' v (.tup ds) → Q v H') : Q (.ref p) (upd H p (.tup vs)) :=
  q _ _ (upd_sameH hp) (.tup (.inl (.inl upd_same)) (r.kt (KT.same (upd_sameH hp))))
theorem tup_newZ {K : Kx} {H : Hp} {p : Addr} {vs : List V} {ds : List D} {Q : VK} (hp : H p = none) (r : Fds K H vs ds) (q : ∀ v H', Same H H' → Fd K H' v (.tup ds) → Q v H') : Fz Q (.ref p) (upd H p (.tup vs)) := .inl (tup_new hp r q)

/-! ### functions -/
theorem c_len (kk : C.K.k = X.K) : CallR X (.builtin "len") (rCl C pLen) := by
  intro pins s σ H xs us Q I rx ⟨ds, d, r, hf, q⟩
  unfold pLen at hf
  split at hf
  · split at hf
    · rename_i hz
      cases hf
      obtain ⟨v, rfl, r1⟩ := fd1 r
      cases r1
      exact call_len pins s σ H _ us Q I rx ⟨_, _, rfl, ⟨sz_ge hz, rfl⟩, q _ H (Same.refl H) (.int _)⟩
    · cases hf
  · cases hf
    obtain ⟨v, rfl, r1⟩ := fd1 r
    cases r1 with
    | lst h1 h2 =>
      refine call_len pins s σ H _ us Q I rx ⟨_, _, rfl, .inl ⟨_, kk ▸ h1.seq, rfl⟩, ?_⟩
      rw [h2.length]
      exact q _ H (Same.refl H) (.int _)
  · cases hf
    obtain ⟨v, rfl, r1⟩ := fd1 r
    cases r1 with
    | tup h1 h2 =>
      refine call_len pins s σ H _ us Q I rx ⟨_, _, rfl, .inr ⟨_, kk ▸ h1, rfl⟩, ?_⟩
      rw [h2.length]
      exact q _ H (Same.refl H) (.int _)
  · cases hf
theorem c_abs : CallR X (.builtin "abs") (rCl C pAbs) := by
  intro pins s σ H xs us Q I rx ⟨ds, d, r, hf, q⟩
  unfold pAbs at hf
  split at hf
  · cases hf
    rename_i i
    obtain ⟨v, rfl, r1⟩ := fd1 r
    cases r1
    refine call_abs pins s σ H _ us Q I rx ⟨_, rfl, ?_⟩
    have e : (if i < 0 then -i else i) = (i.natAbs : Int) := by split <;> omega
    rw [e]
    exact q _ H (Same.refl H) (.int _)
  · cases hf
theorem c_int : CallR X (.type "int") (rCl C pInt) := by
  intro pins s σ H xs us Q I rx ⟨ds, d, r, hf, q⟩
  unfold pInt at hf
  split at hf
  · cases hf
    obtain ⟨v, rfl, r1⟩ := fd1 r
    cases r1
    exact call_int1 pins s σ H _ us Q I rx (.inl ⟨_, rfl, q _ H (Same.refl H) (.int _)⟩)
  · cases hf
    obtain ⟨v, rfl, r1⟩ := fd1 r
    cases r1
    exact call_int1 pins s σ H _ us Q I rx (.inr ⟨_, rfl, q _ H (Same.refl H) (.int _)⟩)
  · split at hf
    · rename_i hz
      obtain ⟨n, h1, h2⟩ := Option.map_eq_some_iff.mp hf
      subst h2
      obtain ⟨v, rfl, r1⟩ := fd1 r
      cases r1
      exact call_int_str pins s σ H _ us Q I rx ⟨_, n, rfl, h1, hz, q _ H (Same.refl H) (.int _)⟩
    · cases hf
  · cases hf
theorem c_str : CallR X (.type "str") (rCl C pStr) := by
  intro pins s σ H xs us Q I rx ⟨ds, d, r, hf, q⟩
  unfold pStr at hf
  split at hf
  · split at hf
    · rename_i hz
      cases hf
      obtain ⟨v, rfl, r1⟩ := fd1 r
      cases r1
      unfold okStr at hz
      rw [decide_eq_true_eq] at hz
      exact call_str_int pins s σ H _ us Q I rx ⟨_, rfl, hz, q _ H (Same.refl H) (.str _)⟩
    · cases hf
  · cases hf
    obtain ⟨v, rfl, r1⟩ := fd1 r
    cases r1
    exact SkE.call_str_str pins s σ H _ us Q I rx ⟨_, rfl, q _ H (Same.refl H) (.str _)⟩
  · cases hf
theorem c_all (kk : C.K.k = X.K) (hc : X.calm = true) : CallR X (.builtin "all") (rCl C pAll) := by
  intro pins s σ H xs us Q I rx ⟨ds, d, r, hf, q⟩
  unfold pAll at hf
  split at hf
  · obtain ⟨bs, h1, h2⟩ := Option.map_eq_some_iff.mp hf
    subst h2
    obtain ⟨v, rfl, r1⟩ := fd1 r
    cases r1 with
    | lst h3 h4 =>
      have e := Fds.bls h4 h1
      subst e
      exact cr_all hc pins s σ H _ us Q I rx ⟨_, bs, rfl, kk ▸ h3.seq, q _ H (Same.refl H) (.bl _)⟩
  · cases hf
theorem c_any (kk : C.K.k = X.K) (hc : X.calm = true) : CallR X (.builtin "any") (rCl C pAny) := by
  intro pins s σ H xs us Q I rx ⟨ds, d, r, hf, q⟩
  unfold pAny at hf
  split at hf
  · obtain ⟨bs, h1, h2⟩ := Option.map_eq_some_iff.mp hf
    subst h2
    obtain ⟨v, rfl, r1⟩ := fd1 r
    cases r1 with
    | lst h3 h4 =>
      have e := Fds.bls h4 h1
      subst e
      exact cr_any hc pins s σ H _ us Q I rx ⟨_, bs, rfl, kk ▸ h3.seq, q _ H (Same.refl H) (.bl _)⟩
  · cases hf
theorem c_tuple (kk : C.K.k = X.K) : CallR X (.type "tuple") (rCl C pTuple) := by
  intro pins s σ H xs us Q I rx ⟨ds, d, r, hf, q⟩
  unfold pTuple at hf
  split at hf
  · cases hf
    obtain ⟨v, rfl, r1⟩ := fd1 r
    cases r1 with
    | lst h1 h2 => exact call_tuple_of pins s σ H _ us Q I rx ⟨_, _, rfl, .inl ⟨kk ▸ h1.seq, fun l hl => tup_new hl h2 q⟩⟩
  · cases hf
    obtain ⟨v, rfl, r1⟩ := fd1 r
    cases r1 with
    | tup h1 h2 => exact call_tuple_of pins s σ H _ us Q I rx ⟨_, _, rfl, .inr ⟨kk ▸ h1, q _ H (Same.refl H) (.tup h1 h2)⟩⟩
  · cases hf
theorem c_list (kk : C.K.k = X.K) : CallR X (.type "list") (rCl C pList) := by
  intro pins s σ H xs us Q I rx ⟨ds, d, r, hf, q⟩
  unfold pList at hf
  split at hf
  · cases hf
    obtain ⟨v, rfl, r1⟩ := fd1 r
    cases r1 with
    | lst h1 h2 => exact CallR.frz call_list_of pins s σ H _ us Q I rx ⟨_, _, rfl, .inl (kk ▸ h1.seq), fun l hl => fz_new hl h2 q⟩
  · cases hf
    obtain ⟨v, rfl, r1⟩ := fd1 r
    cases r1 with
    | tup h1 h2 => exact CallR.frz call_list_of pins s σ H _ us Q I rx ⟨_, _, rfl, .inr (kk ▸ h1), fun l hl => fz_new hl h2 q⟩
  · cases hf
theorem Fd.tyx {K : Kx} {H : Hp} {v : V} {d : D} {t : String} (r : Fd K H v d) (h : d.ty = some t) : TyX K.k H v (.type t) := by
  cases r with
  | non => cases h; exact .base .non
  | bl b => cases h; exact .base (.bl b)
  | int i => cases h; exact .base (.int i)
  | str x => cases h; exact .base (.str x)
  | lst h1 h2 =>
    cases h
    rcases h1 with ⟨o, h1⟩ | ⟨its, n, h1, _⟩
    · exact .base (.frz h1)
    · exact .kList h1 rfl
  | tup h1 h2 =>
    cases h
    rcases h1 with (h1 | ⟨o, h1⟩) | ⟨o, its, n, h1, hc, _⟩
    · exact .base (.tup h1)
    · exact .fTuple h1
    · exact .kTuple h1 hc
  | dct h1 h2 h3 =>
    cases h
    obtain ⟨o, h1⟩ := h1
    exact .fDict h1
  | fn j => cases h
/-- isinstance(x, T), T a built-in type -/
def rIs1 (C : Ct) (T : String) : List V → Hp → VK → Prop := fun xs H Q => ∃ v dv d, xs = [v, .ty T] ∧ Fd C.K H v dv ∧ pIsi T [dv] = some d ∧ ∀ v H', Same H H' → Fd C.K H' v d → Q v H'
theorem c_isi (kk : C.K.k = X.K) {T : String} : CallR X (.builtin "isinstance") (rIs1 C T) := by
  intro pins s σ H xs us Q I rx ⟨v, dv, d, e, r1, hf, q⟩
  subst e
  change (dv.ty.bind fun t => kitB t T).map .bl = some d at hf
  obtain ⟨b, h1, h2⟩ := Option.map_eq_some_iff.mp hf
  subst h2
  obtain ⟨t, h3, h4⟩ := Option.bind_eq_some_iff.mp h1
  exact call_isi pins s σ H _ us Q I rx ⟨v, .ty T, .type t, .type T, b, rfl, .ty T, kk ▸ r1.tyx h3, kit_ty h4, q _ H (Same.refl H) (.bl b)⟩
end
section
variable {X : Cx} {C : Ct} {W : WX} {x : Str} {p pos : Pos} {e a b : Expr} {es : List Expr} {id T : String} {ies : IEs} {ia ib : IE} {f : List D → Option D}
theorem se_callB (hc : CallR X (.builtin id) (rCl C f)) (hg : Gl X x) (hm : X.mg x = none) (ha : SEs X C W (e :: es) ies) (hv : bootBuiltins x = some (.builtin id) := by rfl) (hn : x ≠ "__name__" := by decide) (hdb : (x == ("__debug__" : Str)) = false := by decide)
    (he : starEach (e :: es) X.env = (false, eval e X.env) :: starEach es X.env := by rfl) (hpl : (backTo pos (starEach es X.env)).any (·.1) = false := by rfl) : SE X C W (.Call (.Name x p) (e :: es) [] pos) (.prim f ies) :=
  peImp (pe_callB hc hg hm hv ha hn hdb he hpl) fun _ _ _ h => many h
theorem se_callTy (hc : CallR X (.type T) (rCl C f)) (hg : Gl X x) (hm : X.mg x = none) (ha : SEs X C W (e :: es) ies) (hv : bootBuiltins x = some (.type T) := by rfl) (hn : x ≠ "__name__" := by decide) (hdb : (x == ("__debug__" : Str)) = false := by decide)
    (he : starEach (e :: es) X.env = (false, eval e X.env) :: starEach es X.env := by rfl) (hpl : (backTo pos (starEach es X.env)).any (·.1) = false := by rfl) : SE X C W (.Call (.Name x p) (e :: es) [] pos) (.prim f ies) :=
  peImp (pe_callTy hc hg hm hv ha hn hdb he hpl) fun _ _ _ h => many h
/-- isinstance(a, T) -/
theorem se_isi {y : Str} {p2 : Pos} (kk : C.K.k = X.K) (T : String) (hg : Gl X x) (hm : X.mg x = none) (hg2 : Gl X y) (hm2 : X.mg y = none) (ha : SE X C W a ia) (hv2 : bootBuiltins y = some (.type T) := by rfl) (hv : bootBuiltins x = some (.builtin "isinstance") := by rfl) (hn : x ≠ "__name__" := by decide) (hdb : (x == ("__debug__" : Str)) = false := by decide)
    (hn2 : y ≠ "__name__" := by decide) (hdb2 : (y == ("__debug__" : Str)) = false := by decide)
    (he : starEach [a, .Name y p2] X.env = (false, eval a X.env) :: starEach [.Name y p2] X.env := by rfl) (he2 : starEach [.Name y p2] X.env = (false, eval (.Name y p2) X.env) :: starEach [] X.env := by rfl) (hpl : (backTo pos (starEach [.Name y p2] X.env)).any (·.1) = false := by rfl) : SE X C W (.Call (.Name x p) [a, .Name y p2] [] pos) (.prim (pIsi T) (.cons ia .nil)) :=
  peImp (pe_callB (c_isi kk (T := T)) hg hm hv (pa_cons ha (pa_cons (pe_bltn (v := .ty T) hg2 hm2 hv2 rfl hn2 hdb2) pa_nil he2) he) hn hdb he hpl) fun σ H Q h => by
    obtain ⟨e, E, q⟩ := one h
    refine ⟨e, E, q.mono fun d e1 H1 g q1 v rv => ?_⟩
    obtain ⟨d1, d2, r, hf, k⟩ := q1 v rv
    exact ⟨v, d1, d2, rfl, r, hf, k⟩

/-! ### items and slices -/
theorem i_ix (kk : C.K.k = X.K) : IxR X (rOp C pIx) := by
  intro value slice pins s σ H x y v u Q I rx ry ⟨d1, d2, d, r1, r2, hf, q⟩ hs
  unfold pIx at hf
  split at hf
  · rename_i e
    cases e
    cases r2
    cases r1 with
    | lst h1 h2 =>
      obtain ⟨w, e1, e2⟩ := Fd.getAt h2 hf
      exact ix_list value slice pins s σ H _ _ v u Q I rx ry ⟨_, _, _, w, rfl, rfl, kk ▸ h1.seq, e1, q _ H (Same.refl H) e2⟩ hs
  · rename_i e
    cases e
    cases r2
    cases r1 with
    | tup h1 h2 =>
      obtain ⟨w, e1, e2⟩ := Fd.getAt h2 hf
      exact ix_tup value slice pins s σ H _ _ v u Q I rx ry ⟨_, _, _, w, rfl, rfl, kk ▸ h1, e1, q _ H (Same.refl H) e2⟩ hs
  · rename_i e
    cases e
    split at hf
    · rename_i hz
      obtain ⟨c, h1, h2⟩ := Option.map_eq_some_iff.mp hf
      subst h2
      cases r1
      cases r2
      exact ix_str value slice pins s σ H _ _ v u Q I rx ry ⟨_, _, c, rfl, rfl, sz_ge hz, h1, q _ H (Same.refl H) (.str _)⟩ hs
    · cases hf
  · cases hf
theorem se_ix (kk : C.K.k = X.K) (ha : SE X C W a ia) (hb : SE X C W b ib) (hs : PlainIx b := by intro _ _; rfl) : SE X C W (.Subscript a b pos) (.prim pIx (.cons ia (.cons ib .nil))) :=
  peImp (pe_ix (i_ix kk) ha hb hs) fun _ _ _ h => two h
def rSlC (C : Ct) : V → Option Int → Option Int → Hp → VK → Prop := fun x lo hi H Q => ∃ d1 d, Fd C.K H x d1 ∧ slD lo hi d1 = some d ∧ ∀ v H', Same H H' → Fd C.K H' v d → Q v H'
theorem SlR.frz {r : V → Option Int → Option Int → Hp → VK → Prop} (h : SlR X r) : SlR X (fun x lo hi H Q => r x lo hi H (Fz Q)) := by
  intro pins s σ H x v vl vu lo hi sl Q I rx hs pl pu q
  obtain ⟨T, id, h1, h2, h3⟩ := h pins s σ H x v vl vu lo hi sl _ I rx hs pl pu q
  exact ⟨T, id, h1, h2, thn h3 fun _ _ z => EP.frz z⟩
theorem sl_all (kk : C.K.k = X.K) : SlR X (rSlC C) := by
  intro pins s σ H x v vl vu lo hi sl Q I rx hs pl pu ⟨d1, d, r, hf, q⟩
  unfold slD at hf
  split at hf
  · split at hf
    · rename_i hz
      cases hf
      cases r
      exact sl_str pins s σ H _ v vl vu lo hi sl Q I rx hs pl pu ⟨_, rfl, sz_ge hz, q _ H (Same.refl H) (.str _)⟩
    · cases hf
  · cases hf
    cases r with
    | lst h1 h2 => exact SlR.frz sl_list pins s σ H _ v vl vu lo hi sl Q I rx hs pl pu ⟨_, _, rfl, kk ▸ h1.seq, fun l hl => fz_new hl (h2.cut lo hi) q⟩
  · cases hf
    cases r with
    | tup h1 h2 =>
      refine sl_tupA pins s σ H _ v vl vu lo hi sl Q I rx hs pl pu ⟨_, _, rfl, kk ▸ h1, fun hw => ?_, fun _ l hl => tup_new hl (h2.cut lo hi) q⟩
      refine q _ H (Same.refl H) (.tup h1 ?_)
      unfold cutD
      rw [h2.length] at hw
      rw [hw.1, hw.2]
      simpa using h2
  · cases hf
theorem se_sl00 {p2 : Pos} (kk : C.K.k = X.K) (ha : SE X C W a ia) : SE X C W (.Subscript a (.Slice none none none p2) pos) (.prim pSl00 (.cons ia .nil)) :=
  peImp (pe_slice (sl_all kk) ha po_none po_none) fun σ H Q h => by
    obtain ⟨e, E, q⟩ := one h
    exact ⟨e, E, q.mono fun d e1 H1 g q1 v r => let ⟨d1, d, r, hf, k⟩ := q1 v r; ⟨d1, d, r, hf, k⟩⟩
theorem se_sl10 {p2 : Pos} (kk : C.K.k = X.K) (ha : SE X C W a ia) (hb : SE X C W b ib) : SE X C W (.Subscript a (.Slice (some b) none none p2) pos) (.prim pSl10 (.cons ia (.cons ib .nil))) :=
  peImp (pe_slice (sl_all kk) ha (po_some hb) po_none) fun σ H Q h => by
    obtain ⟨e, E, q⟩ := two h
    refine ⟨e, E, q.mono fun d e1 H1 g q1 v r => ?_⟩
    obtain ⟨e2, E2, q2⟩ := q1 v r
    refine ⟨e2, E2, q2.mono fun d e1 H1 g q1 v r => ?_⟩
    obtain ⟨d1, d2, d, r1, r2, hf, k⟩ := q1 v r
    unfold pSl10 at hf
    split at hf
    · rename_i e
      cases e
      cases r2
      exact ⟨_, rfl, _, d, r1, hf, k⟩
    · cases hf
theorem se_sl01 {p2 : Pos} (kk : C.K.k = X.K) (ha : SE X C W a ia) (hb : SE X C W b ib) : SE X C W (.Subscript a (.Slice none (some b) none p2) pos) (.prim pSl01 (.cons ia (.cons ib .nil))) :=
  peImp (pe_slice (sl_all kk) ha po_none (po_some hb)) fun σ H Q h => by
    obtain ⟨e, E, q⟩ := two h
    refine ⟨e, E, q.mono fun d e1 H1 g q1 v r => ?_⟩
    obtain ⟨e2, E2, q2⟩ := q1 v r
    refine ⟨e2, E2, q2.mono fun d e1 H1 g q1 v r => ?_⟩
    obtain ⟨d1, d2, d, r1, r2, hf, k⟩ := q1 v r
    unfold pSl01 at hf
    split at hf
    · rename_i e
      cases e
      cases r2
      exact ⟨_, rfl, _, d, r1, hf, k⟩
    · cases hf

/-! ### in -/
theorem pys_any (d : D) : ∀ ds : List D, ((D.pys ds).any fun z => PyData.eqv z d.py) = ds.any fun z => z.eqv d
  | [] => rfl
  | x :: xs => by
    show (PyData.eqv x.py d.py || (D.pys xs).any fun z => PyData.eqv z d.py) = _
    rw [pys_any d xs]
    rfl
theorem o_in (kk : C.K.k = X.K) (hu : X.A.units + 65 < cLine) : OpR X (compareOp .In) (rOp C pIn) := by
  intro pins s σ H x y v u Q I rx ry ⟨d1, d2, d, r1, r2, hf, q⟩
  unfold pIn at hf
  split at hf
  · rename_i e
    cases e
    cases hf
    cases r1
    cases r2
    exact op_in_str pins s σ H _ _ v u Q I rx ry ⟨_, _, rfl, rfl, q _ H (Same.refl H) (.bl _)⟩
  · rename_i e
    cases e
    split at hf
    · rename_i hc
      cases hf
      rw [Bool.and_eq_true] at hc
      unfold D.shp at hc
      rw [Bool.and_eq_true, Bool.and_eq_true] at hc
      refine op_inD hu pins s σ H x y v u Q I rx ry ⟨_, _, kk ▸ r1.dp hc.1.1, kk ▸ r2.dp hc.2.1, hc.1.2, hc.2.2, ?_⟩
      rw [pys_any]
      exact q _ H (Same.refl H) (.bl _)
    · cases hf
  · cases hf
theorem o_notin (kk : C.K.k = X.K) (hu : X.A.units + 65 < cLine) : OpR X (compareOp .NotIn) (rOp C pNotIn) := by
  intro pins s σ H x y v u Q I rx ry ⟨d1, d2, d, r1, r2, hf, q⟩
  unfold pNotIn at hf
  split at hf
  · rename_i e
    cases e
    cases hf
    cases r1
    cases r2
    exact op_notin_str pins s σ H _ _ v u Q I rx ry ⟨_, _, rfl, rfl, q _ H (Same.refl H) (.bl _)⟩
  · rename_i e
    cases e
    split at hf
    · rename_i hc
      cases hf
      rw [Bool.and_eq_true] at hc
      unfold D.shp at hc
      rw [Bool.and_eq_true, Bool.and_eq_true] at hc
      refine op_notInD hu pins s σ H x y v u Q I rx ry ⟨_, _, kk ▸ r1.dp hc.1.1, kk ▸ r2.dp hc.2.1, hc.1.2, hc.2.2, ?_⟩
      rw [pys_any]
      exact q _ H (Same.refl H) (.bl _)
    · cases hf
  · cases hf

/-! ### methods of texts -/
def pS : List D → Option D
  | [.str x] => some (.str x)
  | _ => none
theorem se_m1 {r : V → List V → Hp → VK → Prop} {f : List D → Option D} {name : Str} {apos : Pos} (hm : ∀ H a y d2 d Q, Fd C.K H y d2 → f [.str a, d2] = some d → (∀ v H', Same H H' → Fd C.K H' v d → Q v H') → r (.str a) [y] H (Fz Q))
    (hp : ∀ to te, PE X a to → PE X b te → PE X (.Call (.Attribute a name apos) [b] [] pos) (tM1 r to te)) (ha : SE X C W a ia) (hb : SE X C W b ib) : SE X C W (.Call (.Attribute a name apos) [b] [] pos) (.prim f (.cons (.prim pS (.cons ia .nil)) (.cons ib .nil))) :=
  peImp (peFrz (hp _ _ ha hb)) fun σ H Q h => by
    obtain ⟨e, E, q⟩ := one (two h)
    refine ⟨e, E, q.mono fun d e1 H1 g q1 v r => ?_⟩
    obtain ⟨d1, d2, r1, hf, k⟩ := q1 v r
    unfold pS at hf
    split at hf
    · rename_i e
      cases e
      cases hf
      cases r1
      refine ⟨⟨_, rfl⟩, ?_⟩
      obtain ⟨e2, E2, q2⟩ := k _ H1 (Same.refl H1) (.str _)
      refine ⟨e2, E2, q2.mono fun d e3 H3 g q3 v r => ?_⟩
      obtain ⟨d1, d2, d, r1, r2, hf, k⟩ := q3 v r
      cases r1
      exact hm _ _ _ _ _ _ r2 hf k
    · cases hf
theorem se_split {apos : Pos} (ha : SE X C W a ia) (hb : SE X C W b ib) (hs : starEach [b] X.env = [(false, eval b X.env)] := by rfl) (hbase : attributeBase a "split" X.env (eval a X.env) = eval a X.env := by rfl) (hline : (apos.endLine == pos.line) = true := by rfl) :
    SE X C W (.Call (.Attribute a "split" apos) [b] [] pos) (.prim pSplit (.cons (.prim pS (.cons ia .nil)) (.cons ib .nil))) := se_m1 (fun H a y d2 d Q r hf k => by
      unfold pSplit at hf
      split at hf
      · rename_i e
        cases e
        split at hf
        · rename_i hz
          cases hf
          cases r
          exact ⟨_, _, rfl, rfl, hz.1, sz_ge hz.2, fun p hp => fz_new hp (Fds.strs _) k⟩
        · cases hf
      · cases hf) (fun to te h1 h2 => pe_split h1 h2 hs hbase hline) ha hb
theorem se_partition {apos : Pos} (ha : SE X C W a ia) (hb : SE X C W b ib) (hs : starEach [b] X.env = [(false, eval b X.env)] := by rfl) (hbase : attributeBase a "partition" X.env (eval a X.env) = eval a X.env := by rfl) (hline : (apos.endLine == pos.line) = true := by rfl) :
    SE X C W (.Call (.Attribute a "partition" apos) [b] [] pos) (.prim pPart (.cons (.prim pS (.cons ia .nil)) (.cons ib .nil))) := se_m1 (fun H a y d2 d Q r hf k => by
      unfold pPart at hf
      split at hf
      · rename_i e
        cases e
        split at hf
        · rename_i hz
          cases hf
          cases r
          exact ⟨_, _, rfl, rfl, hz.1, sz_ge hz.2, fun p hp => tup_newZ hp (.cons (.str _) (.cons (.str _) (.cons (.str _) .nil))) k⟩
        · cases hf
      · cases hf) (fun to te h1 h2 => pe_partition h1 h2 hs hbase hline) ha hb
/-! ### [..] * n, n written -/
def pRepK (k : Int) (ds : List D) : Option D := if ds.length ≤ 16777216 ∧ ds.length * k.toNat ≤ 16777216 ∧ -(2 ^ 63) ≤ k ∧ k < 2 ^ 63 then some (.lst (List.replicate k.toNat ds).flatten) else none
theorem Fds.rep {K : Kx} {H : Hp} {vs : List V} {ds : List D} (h : Fds K H vs ds) : ∀ n : Nat, Fds K H (List.replicate n vs).flatten (List.replicate n ds).flatten
  | 0 => .nil
  | n + 1 => by
    rw [List.replicate_succ, List.replicate_succ, List.flatten_cons, List.flatten_cons]
    exact h.append (Fds.rep h n)
theorem se_rep {es : List Expr} {k : Int} {j : Nat} {p1 p2 : Pos} (h : SEs X C W es ies) : SE X C W (.BinOp (.List es p1) .Mult (.Constant (.int k) j p2) pos) (.prim (pRepK k) ies) :=
  peImp (peFrz (pe_op op_rep (pe_lst h) pe_int)) fun σ H Q hq => by
    obtain ⟨e, E, q⟩ := many hq
    refine ⟨e, E, q.mono fun ds e1 H1 g q1 vs r => ?_⟩
    obtain ⟨ds', d, r', hf, kk⟩ := q1 vs r
    unfold pRepK at hf
    split at hf
    · rename_i hc
      obtain ⟨h1, h2, h3, h4⟩ := hc
      cases hf
      rw [← r'.length] at h1 h2
      refine ⟨sz_ge h1, fun p hp => ⟨p, k, vs, rfl, rfl, upd_same, h3, h4, sz_ge h2, fun p2 hp2 => ?_⟩⟩
      exact fz_new hp2 ((r'.kt (KT.same (upd_sameH hp))).rep k.toNat) fun v H' s rv => kk v H' ((upd_sameH hp).trans s) rv
    · cases hf
/-! ### names of the module, by value -/
theorem se_gl {x : Str} {v : V} {u : Value} {d : D} (hg : Gl X x) (hm : X.mg x = some u) (r : RelV v u) (rd : ∀ H, Fd C.K H v d) (hd : (x == ("__debug__" : Str)) = false := by decide) : SE X C W (.Name x pos) (.c d) := se_c (pe_glob hg hm r hd) rd

/-! ### repr -/
mutual
theorem py_nd : ∀ d : D, d.py.hasDict = false
  | .non => by simp only [D.py, PyData.hasDict]
  | .bl _ => by simp only [D.py, PyData.hasDict]
  | .int _ => by simp only [D.py, PyData.hasDict]
  | .str _ => by simp only [D.py, PyData.hasDict]
  | .lst xs => by simp only [D.py, PyData.hasDict, pys_nd xs]
  | .tup xs => by simp only [D.py, PyData.hasDict, pys_nd xs]
  | .dct _ _ => by simp only [D.py, PyData.hasDict]
  | .fn _ => by simp only [D.py, PyData.hasDict]
theorem pys_nd : ∀ ds : List D, PyData.hasDictAll (D.pys ds) = false
  | [] => by simp only [D.pys, PyData.hasDictAll]
  | d :: ds => by simp only [D.pys, PyData.hasDictAll, py_nd d, pys_nd ds, Bool.or_self]
end
/-- no dict within, small -/
def pRepr : List D → Option D
  | [d] => if d.plain && d.py.showable && decide (d.py.depth < 100) && decide (d.py.shown.length ≤ 16777216) then (match d with
    | .lst _ => some (.str d.py.shown)
    | .tup _ => some (.str d.py.shown)
    | _ => none) else none
  | _ => none
theorem c_repr (kk : C.K.k = X.K) (hu : X.A.units + 104 < cLine) (hg : X.A.guards = some []) : CallR X (.builtin "repr") (rCl C pRepr) := by
  intro pins s σ H xs us Q I rx ⟨ds, d, r, hf, q⟩
  unfold pRepr at hf
  split at hf
  · rename_i d0
    split at hf
    · rename_i hc
      rw [Bool.and_eq_true, Bool.and_eq_true, Bool.and_eq_true, decide_eq_true_eq, decide_eq_true_eq] at hc
      obtain ⟨v, rfl, r1⟩ := fd1 r
      have hr := r1.dp hc.1.1.1
      obtain ⟨u, rfl, ru⟩ := vals1 rx
      obtain ⟨as, rr⟩ := Dp.reads I d0.py v u (kk ▸ hr) ru
      have fin : ∀ a : Addr, u = .ref a → d = .str d0.py.shown → wpAny (model X.prog X.w) X.A (call (.builtin "repr") [u]) (EP X pins σ Q) X.xe s := fun a ea ed => by
        subst ea
        subst ed
        exact PySem.repr_of_reads' rr hc.1.1.2 (fun h => absurd (py_nd d0) (by rw [h]; decide)) hg (by have := hc.1.2; omega) (fun _ _ z => z) (fun h' u' tk hk => ⟨.str _, H, I.kept hk, ⟨_, rfl⟩, q _ H (Same.refl H) (.str _)⟩) (sz_ge hc.2)
      cases r1 <;> simp only [Option.some.injEq] at hf <;> first
        | cases hf; done
        | (cases ru; exact fin _ rfl hf.symm)
    · cases hf
  · cases hf
end
end Eng

set_option Elab.async false
set_option linter.all false
set_option maxRecDepth 100000
/-! The table by depth; the law's end. -/
namespace Eng
open PySem PySem.Spec PyProof.Rows L2

/-! ### the table -/
structure Defs where
  np : Nat → Nat
  n : Nat → Nat
  ir : Nat → IS
  sub : Nat → Nat → Bool
  fuel : Nat
  nf : Nat
def runD (D : Defs) : Nat → Nat → Sls → FOut
  | 0, _, _ => .stuck
  | d + 1, k, ar => runB ⟨runD D d, D.sub, D.fuel, D.nf⟩ (D.np k) (D.n k) (D.ir k) ar
def tabD (D : Defs) (d : Nat) : Tab := ⟨runD D d, D.sub, D.fuel, D.nf⟩
theorem run_succ (D : Defs) (d k : Nat) (ar : Sls) : runD D (d + 1) k ar = runB (tabD D d) (D.np k) (D.n k) (D.ir k) ar := rfl
/-- the context at depth d -/
def ctD (D : Defs) (K : PySem.W.Frag) (fa ca : Nat → Addr) (an : Nat → Str) (d : Nat) : Ct := ⟨⟨K, fa, []⟩, tabD D d, ca, an⟩
theorem ctD_T (D : Defs) (K : PySem.W.Frag) (fa ca : Nat → Addr) (an : Nat → Str) (d : Nat) : { ctD D K fa ca an d with T := tabD D (d + 1) } = ctD D K fa ca an (d + 1) := rfl
section
variable {P : Program} {w : World} {K : PySem.W.Frag} {mg : Str → Option Value} {base : Heap} {D : Defs} {fa ca : Nat → Addr} {an : Nat → Str} {f : Addr} {fd : FuncData} {ps : List Str}
/-- at no depth nothing is promised -/
theorem fnG0 (k : Nat) : FnG P w K mg base 0 f fd ps (spC (ctD D K fa ca an 0) k) :=
  ⟨fun vs H Q E ⟨ar, _, _, q⟩ => (show False from q).elim, fun A outer s H args us vs Q E _ _ _ _ _ ⟨ar, _, _, q⟩ => (show False from q).elim⟩
/-- what stands of the k-th def -/
structure FnAd (K : PySem.W.Frag) (mg : Str → Option Value) (fa : Nat → Addr) (fd : FuncData) (ps : List Str) (x : Str) (k : Nat) : Prop where
  mg : mg x = some (.ref (fa k))
  keep : PySem.W.keepIn K (.ref (fa k)) = true
  binds : Binds K fd ps []
theorem fnAt_of {d : Nat} {x : Str} {k : Nat} (a : FnAd K mg fa fd ps x k) (G : FnG P w K mg base d (fa k) fd ps (spC (ctD D K fa ca an d) k)) : FnAt P w K mg base (ctD D K fa ca an d) d x k :=
  ⟨fa k, fd, ps, a.mg, rfl, a.keep, G, a.binds⟩
end

/-! ### the law's end -/
theorem law_callG {P : Program} {w : World} {K : PySem.W.Frag} {mg mb : Str → Option Value} {k : Nat} {f a : Addr} {fd : FuncData} {x : Str} {Df : Defs} {fa ca : Nat → Addr} {an : Nat → Str} {j : Nat} {s₁ : Shared} {vs : List Value} {ns : List Int}
    (KX : K.In s₁.heap) (hns : s₁.heap.Ns mainGlobals mg) (hb : s₁.heap.Ns builtinsNs mb) (hbb : ∀ x : Str, x ≠ "__name__" → mb x = bootBuiltins x) (hlim : s₁.heap.NoLimit) (hg : s₁.gens = #[])
    (ha : s₁.heap.get? a = some { cls := .type "list", data := .seq vs.toArray }) (hi : IntsAre vs ns) (hl : ns.length ≤ sizeLine) (hr : Room k callerA)
    (F : ∀ base : Heap, K.In base → base.Ns mainGlobals mg → FnG P w K mg base k f fd [x] (spC (ctD Df K fa ca an k) j)) (hbind : ∀ (s : Shared) (u : Value), BindsTo s fd ⟨[u], []⟩ [(x, u)])
    (hsp : runD Df k j [.val (.lst (ns.map D.int))] = .ok (.v (.bl true)) [.val (.lst (ns.map D.int))]) :
    codeAny (model P w) callerA (.call (.ref f) ⟨[.ref a], []⟩) (fun r s' => r = .ok (.ret (.bool true)) ∧ OldK s₁.heap s'.heap ∧ s'.os = s₁.os ∧ AllBare s'.gens) s₁ := by
  have rv := vals_ints hi
  have lenV := hi.length
  have hfd : ∀ H : Hp, Fds (⟨K, fa, []⟩ : Kx) H (ns.map V.int) (ns.map D.int) := fun H => by
    clear hi hl hsp ha rv lenV
    induction ns with
    | nil => exact .nil
    | cons n ns ih => exact .cons (.int n) ih
  -- from an abstract heap in which nothing but the script may be tracked
  have core : ∀ H : Hp, Only H → FzL (⟨K, fa, []⟩ : Kx) H a (ns.map V.int) → HOk P w H s₁.heap → (∀ b, H b ≠ none → b = a) → (H a ≠ none → K.lookup a = none) →
      codeAny (model P w) callerA (.call (.ref f) ⟨[.ref a], []⟩) (fun r s' => r = .ok (.ret (.bool true)) ∧ OldK s₁.heap s'.heap ∧ s'.os = s₁.os ∧ AllBare s'.gens) s₁ := by
    intro H hO hS hok hA hK
    have base_of : ∀ {b : Addr} {o : Obj}, s₁.heap.get? b = some o → H b = none → (hidT s₁.heap H).get? b = some o := fun e n => hidT_get e n
    have noA : ∀ {b : Addr} {o : Obj} {es : Array DictEntry} {ep : Nat}, s₁.heap.get? b = some o → o.data = .dict es ep → H b = none := fun {b o es ep} e d => by
      cases q : H b with
      | none => rfl
      | some u =>
        have e' : b = a := hA b (by rw [q]; simp)
        subst e'
        rw [ha] at e; cases e
        have d' : Data.seq vs.toArray _ = Data.dict es ep := d
        cases d'
    have nsK : ∀ {b : Addr} {m : Str → Option Value}, s₁.heap.Ns b m → (hidT s₁.heap H).Ns b m := fun {b m} ⟨o, es, ep, e, d, r⟩ => ⟨o, es, ep, base_of e (noA e d), d, r⟩
    have hKb : K.In (hidT s₁.heap H) := fun b o e => base_of (KX b o e) (by
      cases q : H b with
      | none => rfl
      | some u =>
        have e' : b = a := hA b (by rw [q]; simp)
        subst e'
        rw [hK (by rw [q]; simp)] at e; cases e)
    have hM : Mod K mg (hidT s₁.heap H) := ⟨hKb, nsK hns, ⟨mb, nsK hb, hbb⟩, let ⟨mc, h1, h2⟩ := hlim; ⟨mc, nsK h1, h2⟩⟩
    have e0 : Env0 P w K mg (hidT s₁.heap H) callerA [] s₁ H := ⟨rfl, hM, fun b o e => of_hidT e, Nat.le_of_eq (hidT_size _ _), trivial, fun b hb => absurd (show b ∈ ([] : List Addr) from hb) (by simp), hok, .of_eq hg⟩
    have E1 : EnvOk (⟨K, fa, []⟩ : Kx) H ([V.ref a].map some) [.val (.lst (ns.map D.int))] := by
      refine ⟨rfl, fun i d h => ?_, fun i p c h => ?_, fun i j b ⟨_, p, c, h⟩ => ?_, fun b fs h => absurd h (by simp)⟩
      · cases i with
        | zero => cases h; exact ⟨_, rfl, .lst hS (hfd H)⟩
        | succ i => simp at h
      · cases i with
        | zero => cases h
        | succ i => simp at h
      · cases i with
        | zero => cases h
        | succ i => simp at h
    have sp : spC (ctD Df K fa ca an k) j [.ref a] H (fun v _ => v = .bl true) fun _ _ _ => False := by
      refine ⟨[.val (.lst (ns.map D.int))], E1, fun i p c h => ?_, ?_⟩
      · cases i with
        | zero => cases h
        | succ i => simp at h
      · show fEnd _ _ _ _ _ _ (runD Df k j _)
        rw [hsp]
        intro v H' _ r
        cases r
        rfl
    refine codeAny_mono ((F _ hKb (nsK hns)).run callerA [] s₁ H ⟨[.ref a], []⟩ [.ref a] [.ref a] _ _ rfl hr e0 (hbind s₁ (.ref a)) (.cons rfl .nil) sp) fun r s' h => ?_
    cases r with
    | error e => exact (by obtain ⟨_, _, _, _, _, _, _, _, _, _, _, _, q⟩ := h; exact q.elim)
    | ok fl =>
      cases fl with
      | next => exact False.elim h
      | brk => exact False.elim h
      | cont => exact False.elim h
      | ret u =>
        obtain ⟨v, H', os, bare, un, hok', r', q⟩ := h
        have q' : v = .bl true := q
        subst q'
        obtain rfl : u = Value.bool true := r'
        refine ⟨rfl, OldK.of_keep fun b o e => ?_, os, bare⟩
        cases q : H b with
        | none => exact un.keep b o e q (by intro z; exact absurd (show b ∈ ([] : List Addr) from z) (by simp)) (by simp)
        | some u =>
          rcases hO b with z | ⟨ob, xs, z⟩
          · rw [q] at z; cases z
          · have z2 := un.frzs b ob _ z
            obtain ⟨e1, _⟩ := hok b _ z
            obtain ⟨e2, _⟩ := hok' b _ z2
            rw [e] at e1; cases e1
            exact e2
  cases hk : K.lookup a with
  | some o =>
    -- the script is one of the module's own objects
    have e := KX a o hk
    rw [ha] at e
    cases e
    exact core (fun _ => none) (fun _ => .inl rfl) (.inr ⟨vs, _, hk, by rw [lenV]; exact hl, rv⟩) (fun b u z => by have z' : (none : Option HO) = some u := z; cases z') (fun b z => absurd rfl z) fun z => absurd rfl z
  | none =>
    refine core (fun b => if b = a then some (.frz { cls := .type "list", data := .seq vs.toArray } (.lst (ns.map V.int))) else none) (fun b => ?_) (.inl ⟨{ cls := .type "list", data := .seq vs.toArray }, if_pos rfl⟩) (fun b u z => ?_) (fun b z => ?_) fun _ => hk
    · by_cases hb : b = a
      · exact .inr ⟨_, _, if_pos hb⟩
      · exact .inl (if_neg hb)
    · by_cases hb : b = a
      · have z' := (if_pos hb).symm.trans z
        cases z'
        subst hb
        exact ⟨ha, by rw [List.length_map]; exact hl, vs, _, rv, ha⟩
      · have z' := (if_neg hb).symm.trans z
        cases z'
    · by_cases hb : b = a
      · exact hb
      · exact absurd (if_neg hb) z
/-- the goal that k_head leaves, from the law's promise -/
theorem walk_ofG {l : PySem.W.OpenLaw} {n k j : Nat} {q : Program} {loose : List Str} {XP : (Str → Option Value) → Heap → Prop} {YP : World → Heap → Prop} {d : DefRec} {K : Params → PySem.W.Frag} {Df : Defs} {x : Str}
    (hn : l.most = some n) (hn2 : n ≤ sizeLine) (hdf : d.params.defaults = []) (hr : Room k callerA)
    (hY : ∀ (w : World) (h : Heap), YP w h → (K w.params).In h)
    (F : ∀ (w : World) (mg : Str → Option Value) (f : Addr) (h : Heap), (K w.params).In h → h.Ns mainGlobals mg → mg d.name = some (.ref f) →
      ∃ (fd : FuncData) (fa ca : Nat → Addr) (an : Nat → Str), (∀ (s : Shared) (u : Value), BindsTo s fd ⟨[u], []⟩ [(x, u)]) ∧
        ∀ base : Heap, (K w.params).In base → base.Ns mainGlobals mg → FnG l.prog w (K w.params) mg base k f fd [x] (spC (ctD Df (K w.params) fa ca an k) j))
    (hsp : ∀ ns : List Int, ns.length ≤ n → runD Df k j [.val (.lst (ns.map D.int))] = .ok (.v (.bl true)) [.val (.lst (ns.map D.int))]) :
    PySem.W.WalkO q loose XP YP l.row.toRowW d [] (fun f vs => PySem.call f vs) := by
  refine Att.attach_call hn hdf fun w s₀ s₁ mg mb fa o pm cd doc a vs ns G Y ho hd hcd hmg hobj hints hlen hg => ?_
  have KX := hY w _ Y
  obtain ⟨fd, fa', ca, an, hb, hF⟩ := F w mg fa _ KX G.T.g hmg
  exact law_callG KX G.T.g G.T.b G.T.builtins G.T.nolimit hg hobj hints (Nat.le_trans hlen hn2) hr hF hb (hsp ns hlen)
end Eng

set_option Elab.async false
set_option linter.all false
set_option maxRecDepth 100000
/-! Helps for printed derivations. -/
namespace Eng
open PySem PySem.Spec PyProof.Rows L2
theorem fuel_ex : ∃ n : Nat, 2 ^ 100000 ≤ n := ⟨_, Nat.le_refl _⟩
/-- how often a while may turn at most (a number that is not looked at; so many turns more may be reckoned) -/
noncomputable def FUEL : Nat := fuel_ex.choose + 64
theorem fuel_le {k : Nat} (h : k ≤ 100000) : 2 ^ k ≤ FUEL := Nat.le_trans (Nat.pow_le_pow_right (by omega) h) (Nat.le_trans fuel_ex.choose_spec (Nat.le_add_right _ _))
/-- the module's name x holds the datum d -/
def Gc (K : PySem.W.Frag) (mg : Str → Option Value) (fa : Nat → Addr) (x : Str) (d : D) : Prop := ∃ v u, mg x = some u ∧ RelV v u ∧ ∀ H, Fd ⟨K, fa, []⟩ H v d
theorem gc_fn {K : PySem.W.Frag} {mg : Str → Option Value} {fa : Nat → Addr} {x : Str} {k : Nat} (h : mg x = some (.ref (fa k))) : Gc K mg fa x (.fn k) := ⟨.ref (fa k), _, h, rfl, fun _ => .fn k⟩
theorem gc_str {K : PySem.W.Frag} {mg : Str → Option Value} {fa : Nat → Addr} {x z : Str} {t : Tok} (h : mg x = some (.str z t)) : Gc K mg fa x (.str z) := ⟨.str z, _, h, ⟨t, rfl⟩, fun _ => .str z⟩
theorem gc_int {K : PySem.W.Frag} {mg : Str → Option Value} {fa : Nat → Addr} {x : Str} {z : Int} {t : Tok} (h : mg x = some (.int z t)) : Gc K mg fa x (.int z) := ⟨.int z, _, h, ⟨t, rfl⟩, fun _ => .int z⟩
def mgIn (K : PySem.W.Frag) : Prop := True
section
variable {X : Cx} {C : Ct} {W : WX} {x : Str} {d : D} {pos : Pos} {fa : Nat → Addr} {ca : Nat → Addr}
theorem se_gc (hK : C.K = ⟨X.K, fa, []⟩) (hg : Gl X x) (h : Gc X.K X.mg fa x d) (hd : (x == ("__debug__" : Str)) = false := by decide) : SE X C W (.Name x pos) (.c d) := by
  obtain ⟨v, u, h1, h2, h3⟩ := h
  exact se_gl hg h1 h2 (fun H => hK ▸ h3 H) hd
theorem tkE {e : Expr} {ie : IE} (k : Takes X WF → SE X C WF e ie) : SE X C WF e ie := k fun _ _ x => by
  obtain ⟨_, _, _, _, _, _, _, _, _, _, _, _, _, _, _, _, z⟩ := x
  exact z.elim
theorem tkT {e : List Expr} {ie : IE} (k : Takes X WF → STs X C WF e ie) : STs X C WF e ie := k fun _ _ x => by
  obtain ⟨_, _, _, _, _, _, _, _, _, _, _, _, _, _, _, _, z⟩ := x
  exact z.elim
theorem tkS {e : List Stmt} {ie : IS} (k : Takes X WF → SSs X C WF e ie) : SSs X C WF e ie := k fun _ _ x => by
  obtain ⟨_, _, _, _, _, _, _, _, _, _, _, _, _, _, _, _, z⟩ := x
  exact z.elim
end
theorem hu64 {A : Around} {k : Nat} (hr : Room k A) : A.units + 64 < cLine := by have := hr.un; omega
theorem hu65 {A : Around} {k : Nat} (hr : Room k A) : A.units + 65 < cLine := by have := hr.un; omega
theorem hu104 {A : Around} {k : Nat} (hr : Room k A) : A.units + 104 < cLine := by have := hr.un; omega
/-- an own exception class over ValueError without own __init__ -/
structure Ex0 (K : PySem.W.Frag) (mg : Str → Option Value) (ca : Nat → Addr) (x : Str) (k : Nat) : Prop where
  mg : mg x = some (.ref (ca k))
  cls : PySem.W.excIn K (ca k) [.type "ValueError", .type "Exception", .type "BaseException", .type "object"] "ValueError.__new__" = true
  keep : PySem.W.keepIn K (.ref (ca k)) = true
  sub : PySem.W.subIn K (.ref (ca k)) (.type "BaseException") = some true
  typ : PySem.W.typeIn K (.ref (ca k)) = some (.type "type")
def fLenL (c : MC) (ds : List D) : Option D := match c with
  | .lst _ => fLen c ds
  | _ => none
end Eng
namespace Eng
open PySem PySem.Spec PyProof.Rows L2
/-- '<' + str(err.f) + '>' -/
def hndS (i : Nat) (s1 s2 : Str) : Option D → IS := fun o => match o with
  | some d => .seq (.put (.n i) (.c .non)) (.ret (.val (.prim pAdd (.cons (.prim pAdd (.cons (.c (.str s1)) (.cons (.prim pStr (.cons (.c d) .nil)) .nil))) (.cons (.c (.str s2)) .nil)))))
  | none => .ret (.val (.prim (fun _ => none) .nil))
theorem ss_try_sf {X : Cx} {C : Ct} {W : WX} {body : List Stmt} {ib : IS} {x n f s1 s2 : Str} {np pos pos' p1 p2 p3 p4 p5 p6 p7 p8 p9 : Pos} {j1 j2 k i : Nat} (kk : C.K.k = X.K) (hs : X.stack = X.env :: X.outer) (hf : X.env.frame = some X.env.locals) (hN : X.N.Nodup) (hi : X.N[i]? = some n) (hln : X.env.kindOf n = some .local) (hx : Names X x (.ref (C.ca k))) (tk : Takes X W)
    (hsub : ∀ j, PySem.W.exmOne X.K (.ref (C.ca j)) (.ref (C.ca k)) = some (C.T.sub j k)) (hsk : ∀ j, C.T.sub j k = true → C.ca j = C.ca k ∧ C.an j = f)
    (TX : XfC X.K (C.ca k)) (hno : PySem.W.findIn X.K (.ref (C.ca k)) f = some none) (hgS : Gl X "str") (hmS : X.mg "str" = none)
    (hb : ∀ (W' : WX) (pn : List (Addr × Obj)) (xe : Value → Shared → Prop), Takes (X.tr pn xe) W' → PassesOwn (model X.prog X.w) X.A X.env xe → SSs (X.tr pn xe) C W' body ib)
    (hv : Vis X.env.scope n := by first | exact Or.inl rfl | exact Or.inr (Or.inl rfl) | exact Or.inr (Or.inr rfl)) (hd : (n == ("__debug__" : Str)) = false := by decide) (hcd : (n == ("__classdict__" : Str)) = false := by decide)
    (hba : attributeBase (.Name n p1) f X.env (eval (.Name n p1) X.env) = eval (.Name n p1) X.env := by rfl)
    (he : starEach [.Attribute (.Name n p1) f p2] X.env = (false, eval (.Attribute (.Name n p1) f p2) X.env) :: starEach [] X.env := by rfl) (hpl : (backTo p4 (starEach [] X.env)).any (·.1) = false := by rfl) :
    SS X C W (.Try body [.ExceptHandler (some (.Name x np)) (some n) [.Return (some (.BinOp (.BinOp (.Constant (.str s1) j1 p9) .Add (.Call (.Name "str" p3) [.Attribute (.Name n p1) f p2] [] p4) p5) .Add (.Constant (.str s2) j2 p6) p7)) p8] pos'] [] [] pos) (.try ib k [i] (hndS i s1 s2)) := by
  refine ss_try_as hs hf hN hi hln hx tk hsub hb (fun a oe cls d pn hz hfl => pss_one (ps_ret (pe_op (o_add (C := C) (X := X.suite a ((a, oe) :: pn)) kk) (pe_op (o_add (C := C) (X := X.suite a ((a, oe) :: pn)) kk) pe_str (pe_callTy (X := X.suite a ((a, oe) :: pn)) (c_str (C := C)) hgS hmS (by rfl) (pa_cons (pe_xf TX hno hz hfl (pe_var (i := i) hi hv hd hcd) hba) pa_nil he) (by decide) (by decide) he hpl)) pe_str))) fun y a cls d D σ e H hy ex E q => ?_
  obtain ⟨ec, ex⟩ := ex
  obtain ⟨e1, e2⟩ := hsk _ hy
  rw [e1] at ec
  cases hya : y.arg with
  | none =>
    rw [hya] at q
    exact q.elim
  | some dv =>
    rw [hya, e2] at ex
    obtain ⟨dd, v, h1, h2, h3⟩ := ex
    rw [hya] at q
    have q : finS C WF D (σ.set i (some (.ref a))) e H (exS C.T (hndS i s1 s2 (some dv)) e) := q
    unfold hndS at q
    simp only [exS, ev, Out.so, Tg.put] at q
    cases hpn : putN i .non e with
    | none => rw [hpn] at q; exact q.elim
    | some e2 =>
      rw [hpn] at q
      have he2 := putN_some hpn
      have hlt : i < σ.length := by
        have hl := E.len
        rw [List.length_set] at hl
        rw [hl]
        unfold putN at hpn
        cases hei : e[i]? with
        | none => rw [hei] at hpn; cases hpn
        | some sl => exact (List.getElem?_eq_some_iff.mp hei).1
      have hsl : (σ.set i (some (.ref a)))[i]? = some (some (V.ref a)) := List.getElem?_set_self hlt
      cases hp : pStr [dv] with
      | none =>
        simp only [SO.seq, SO.opt, evr, ev, evs, Out.bind, hp, Out.opt, Out.so] at q
        exact q.elim
      | some dx =>
        cases hp2 : pAdd [.str s1, dx] with
        | none =>
          simp only [SO.seq, SO.opt, evr, ev, evs, Out.bind, hp, hp2, Out.opt, Out.so] at q
          exact q.elim
        | some dy =>
          cases hp3 : pAdd [dy, .str s2] with
          | none =>
            simp only [SO.seq, SO.opt, evr, ev, evs, Out.bind, hp, hp2, hp3, Out.opt, Out.so] at q
            exact q.elim
          | some dz =>
            simp only [SO.seq, SO.opt, evr, ev, evs, Out.bind, hp, hp2, hp3, Out.opt, Out.so] at q
            subst he2
            have st := Go.store (i := i) E (Fd.non (K := C.K) (H := H))
            exact ⟨_, hsl, rfl, ec, dd, _, v, h1, h2, by simp [List.lookup], [dv], dx, .cons h3 .nil, hp, fun y H2 z2 ry => ⟨.str s1, dx, dy, .str _, ry, hp2, fun z H3 z3 rz => ⟨dy, .str s2, dz, rz, .str _, hp3, fun u H4 z4 ru => q _ H4 u (st.trans (Ge.same st.env (z2.trans (z3.trans z4))).go) ru⟩⟩⟩
end Eng

namespace Eng
open PySem PySem.Spec PyProof.Rows L2
theorem gc_tup {K : PySem.W.Frag} {mg : Str → Option Value} {fa : Nat → Addr} {x : Str} {z : Addr} {dd : Option Addr} {us : List Value} {n : Nat} {sl : Array (Option Value)} {vs : List V} {ds : List D} (h : mg x = some (.ref z))
    (hl : K.lookup z = some ⟨.type "tuple", dd, .seq us.toArray n, sl⟩) (r : Vals vs us) (rd : ∀ H, Fds (⟨K, fa, []⟩ : Kx) H vs ds) (hz : us.length ≤ sizeLine) : Gc K mg fa x (.tup ds) :=
  ⟨.ref z, _, h, rfl, fun H => .tup (.inr ⟨_, us.toArray, n, hl, rfl, rfl, by simpa using hz, by simpa using r⟩) (rd H)⟩
end Eng
namespace Eng
open PySem PySem.Spec PyProof.Rows L2
theorem exm_of {K : PySem.W.Frag} {S T : Addr} {b : Bool} (h1 : PySem.W.subIn K (.ref T) (.type "BaseException") = some true) (h2 : PySem.W.isClsIn K S = true) (h3 : PySem.W.typeIn K (.ref S) = some (.type "type")) (h5 : PySem.W.isClsIn K T = true) (h6 : PySem.W.typeIn K (.ref T) = some (.type "type")) (h4 : PySem.W.subIn K (.ref S) (.ref T) = some b) :
    PySem.W.exmOne K (.ref S) (.ref T) = some b := by
  have e1 : (PySem.W.subIn K (.ref T) (.type "BaseException") == some true) = true := by rw [h1] <;> rfl
  have e2 : ((PySem.W.clsIn K S).isSome && PySem.W.typeIn K (.ref S) == some (.type "type")) = true := by
    have h2' : (PySem.W.clsIn K S).isSome = true := h2
    rw [h2', h3] <;> rfl
  have e3 : ((PySem.W.clsIn K T).isSome && PySem.W.typeIn K (.ref T) == some (.type "type")) = true := by
    have h2' : (PySem.W.clsIn K T).isSome = true := h5
    rw [h2', h6] <;> rfl
  unfold PySem.W.exmOne
  rw [if_pos e1]
  unfold PySem.W.kitCls
  first
    | (show (if ((PySem.W.clsIn K T).isSome && PySem.W.typeIn K (.ref T) == some (.type "type")) = true then PySem.W.subIn K (.ref S) (.ref T) else none) = some b
       rw [if_pos e3]
       exact h4)
    | (show (if ((PySem.W.clsIn K S).isSome && PySem.W.typeIn K (.ref S) == some (.type "type")) = true then PySem.W.subIn K (.ref S) (.ref T) else none) = some b
       rw [if_pos e2]
       exact h4)
end Eng

set_option Elab.async false
set_option linter.all false
set_option maxRecDepth 100000
/-! An own exception whose __init__(self, p) says super().__init__(e) and self.f = p. -/
namespace PySem
namespace SupX
open PySem.W PySem.Calls PyProof.Rows PySem.HandSPX
def iA (pn : Str) (p1 p2 : Pos) : Arguments := { posonlyargs := [], args := [{ arg := "self", annotation := none, pos := p1 }, { arg := pn, annotation := none, pos := p2 }], vararg := none, kwonlyargs := [], kw_defaults := [], kwarg := none, defaults := [] }
structure Ps where
  a1 : Pos
  a2 : Pos
  p0 : Pos
  p1 : Pos
  p2 : Pos
  p3 : Pos
  p4 : Pos
  q1 : Pos
  q2 : Pos
  q3 : Pos
  q4 : Pos
def iB (f pn : Str) (e : Expr) (p : Ps) : List Stmt := [.Expr (.Call (.Attribute (.Call (.Name "super" p.p0) [] [] p.p1) "__init__" p.p2) [e] [] p.p3) p.p4, .Assign [.Attribute (.Name "self" p.q1) f p.q2] (.Name pn p.q3) p.q4]
/-- what the written part says of the class at C and of its __init__ at fI -/
structure SupC (prog : Program) (K : Frag) (C fI cda cc : Addr) (f pn qual : Str) (e : Expr) (ps : Ps) (scope : Scope) : Prop where
  cls : ∃ nm q N bs bm sn sub ab col dd k0 k1 k2 k3 k5, K.lookup C = some (excClassObj nm q C N bs bm true sn sub ab col dd k0 k1 k2 k3 k5 "ValueError.__new__") ∧ refsVE bm = true
  sa : findIn K (.ref C) "__setattr__" = some (some (.builtin "object.__setattr__"))
  noF : findIn K (.ref C) f = some none
  iC : findIn K (.ref C) "__init__" = some (some (.ref fI))
  tI : typeIn K (.ref fI) = some (.type "function")
  fn : ∃ (oc : Value) (od : Option Addr) (doc pm : Value) (an : Option Addr) (ct : Value) (osl : Array (Option Value)),
    K.lookup fI = some ⟨oc, od, .func (ksFn "__init__" qual (iA pn ps.a1 ps.a2) (iB f pn e ps) scope .none .none doc pm an (.ref cda) ct cc), osl⟩ ∧ codeIn K (.ref cda) qual = true
  code : ∃ (ccl : Value) (cdd : Option Addr) (vs : Array Value) (ccs : Array (Option Value)) (file : Str) (tf : Tok), K.lookup cda = some ⟨ccl, cdd, .fields vs, ccs⟩ ∧ vs[2]? = some (.str file tf) ∧ ((prog.main.file : Str) == file) = true
  cell : ∃ (cl : Value) (cld : Option Addr) (csl : Array (Option Value)), K.lookup cc = some ⟨cl, cld, .cell (some (.ref C)), csl⟩
  top : (prog.main.scope.names.lookup ("super" : Str)).isSome = false
  opq : nsIn K cStatics "thirdparty.any" = some none
  sup : ks_superIn K C C "__init__" = some (some (.builtin "ValueError.__init__"))
  subB : subIn K (.ref C) (.type "ValueError") = some true
  mroC : mroIn K C (.ref C) = some true
  scp : scope.kind = .function ∧ scope.isCoroutine = false ∧ scope.isGenerator = false ∧ scope.names.lookup ("super" : Str) = some .globalImplicit ∧ scope.names.lookup ("__class__" : Str) = some .free ∧ scope.names.lookup ("self" : Str) = some .local ∧ scope.names.lookup pn = some .local
  nocell : ∀ x ∈ scope.names, x.2 ≠ .cell
  pnz : pn ≠ "self" ∧ (pn == ("__debug__" : Str)) = false
  bnd : ∀ (x : Addr) (v doc pm ct : Value) (an : Option Addr), bindArgs (ksFn "__init__" qual (iA pn ps.a1 ps.a2) (iB f pn e ps) scope .none .none doc pm an (.ref cda) ct cc) ⟨[.ref x, v], []⟩ = pure [(("self" : Str), Value.ref x), (pn, v)]
  evc : ∀ L : Addr, ∃ pl : Sem Bool, eval (.Call (.Attribute (.Call (.Name "super" ps.p0) [] [] ps.p1) "__init__" ps.p2) [e] [] ps.p3) (ksEnv qual scope L fI (.ref cda) cc) = (do
    let ov ← attributeBase (.Call (.Name "super" ps.p0) [] [] ps.p1) "__init__" (ksEnv qual scope L fI (.ref cda) cc) (eval (.Call (.Name "super" ps.p0) [] [] ps.p1) (ksEnv qual scope L fI (.ref cda) cc))
    standAt ps.p2.atName
    let (f, first) ← holding [ov] (getMethod ov "__init__" pl)
    callWith ps.p3 f first (backTo ps.p3 (starEach [e] (ksEnv qual scope L fI (.ref cda) cc))) [])
  int : ∀ L : Addr, interactive (ksEnv qual scope L fI (.ref cda) cc) = false
  sw : ∀ L : Addr, swapsWith (.Name pn ps.q3) (some (.Attribute (.Name "self" ps.q1) f ps.q2)) ps.q4.line (ksEnv qual scope L fI (.ref cda) cc) = pure false
  star : ∀ env, starEach [e] env = [(false, eval e env)]
theorem ldL {prog : Program} {w : World} {A : Around} {E : Value → Shared → Prop} {s : Shared} {env : Env} {m : Str → Option Value} {x : Str} {pos : Pos} {v : Value} {Q : Value → Shared → Prop} (hn : s.heap.Ns env.locals m) (hv : m x = some v) (h : Q v s)
    (hk : env.scope.kind = .function) (hl : env.kindOf x = some .local) (hd : (x == ("__debug__" : Str)) = false) : wpAny (model prog w) A (eval (.Name x pos) env) Q E s := wpAny_Name (wpAny_loadName_local hk hl hn hv h) hd
structure InitEnd (h h' : Heap) (x C dx t1 : Addr) (f : Str) (v : Value) : Prop where
  keep : ∀ b o, b ≠ x → h.get? b = some o → h'.get? b = some o
  obj : h'.get? x = some { cls := .ref C, dict := some dx, data := .fields #[.ref t1, .none, .none, .none, .bool false, .none] }
  dbig : h.objs.size ≤ dx
  dne : dx ≠ x
  ns : h'.Ns1 dx (fun y => if y = f then some v else none)
section
variable {prog : Program} {w : World} {A : Around} {E : Value → Shared → Prop} {R : Result → Shared → Prop} {s : Shared} {K : Frag} {mg mb : Str → Option Value} {C fI cda cc : Addr} {f pn qual : Str} {e : Expr} {ps : Ps} {scope : Scope}
theorem kept_but {h h' : Heap} {x : Addr} (X : K.In h) (hx : K.lookup x = none) (k : ∀ b o, b ≠ x → h.get? b = some o → h'.get? b = some o) : K.In h' := fun a o e =>
  k a o (fun z => by rw [z, hx] at e; cases e) (X a o e)
theorem sup_init (T : SupC prog K C fI cda cc f pn qual e ps scope) {x t0 : Addr} {v : Value} (X : K.In s.heap) (hlim : s.heap.NoLimit) (hg : s.heap.Ns mainGlobals mg) (hgs : mg "super" = none) (hb : s.heap.Ns builtinsNs mb) (hbs : mb "super" = some (.type "super"))
    (hx : s.heap.get? x = some (excO C t0)) (hnx : K.lookup x = none) (hroom : A.depth < recursionLimit)
    (hE : ∀ (A' : Around) (E' : Value → Shared → Prop) (L : Addr) (s1 : Shared) (Q : Value → Shared → Prop), (∀ b o, s.heap.get? b = some o → s1.heap.get? b = some o) → s1.heap.Ns L (fun y => ([(("self" : Str), Value.ref x), (pn, v)] : List (Str × Value)).reverse.lookup y) → (∀ z tz tk, Q (.str z tz) { s1 with toks := tk }) →
      wpAny (model prog w) A' (eval e (ksEnv qual scope L fI (.ref cda) cc)) Q E' s1)
    (hq : ∀ h' tk dx t1, InitEnd s.heap h' x C dx t1 f v → R (.ok (.ret .none)) { s with heap := h', toks := tk }) :
    codeAny (model prog w) A (.call (.ref fI) ⟨[.ref x, v], []⟩) R s := by
  obtain ⟨oc, od, doc, pm, an, ct, osl, ho, hcd⟩ := T.fn
  obtain ⟨nm, q, N, bs, bm, sn, sub, ab, col, dd, k0, k1, k2, k3, k5, hC, hbm⟩ := T.cls
  have hcl : clsIn K C = some { name := nm, bases := bs, mro := .ref C :: bm, ns := N, qualname := q, hasDict := true, slotNames := sn, subclasses := sub, abstract := ab, collection := col, hasDel := false } := by unfold clsIn; rw [hC] <;> rfl
  obtain ⟨sk, sco, sgen, ns1, ns2, ns3, ns4⟩ := T.scp
  obtain ⟨ccl, cdd, vs, ccs, file, tf, hcode, hvs, hfile⟩ := T.code
  obtain ⟨cl, cld, csl, hcell⟩ := T.cell
  refine ks_codeAny_call_defAt (fd := ksFn "__init__" qual (iA pn ps.a1 ps.a2) (iB f pn e ps) scope .none .none doc pm an (.ref cda) ct cc) (body := iB f pn e ps) (binds := [(("self" : Str), Value.ref x), (pn, v)]) hroom (X _ _ ho) rfl hlim (codeRec_of X hcd) rfl (BindsTo.of_eq (T.bnd _ _ _ _ _ _)) T.nocell (fun y hy => ?_) (fun h₁ hn k => ?_) sco sgen sk
  · rcases List.mem_cons.mp hy with h | h
    · cases h; exact ns3
    · rcases List.mem_cons.mp h with h | h
      · cases h; exact ns4
      · cases h
  have hxL : s.heap.objs.size ≠ x := Nat.ne_of_gt (Heap.lt_size hx)
  have X₁ : K.In h₁ := X.keeps k
  have hx₁ := k _ _ hx
  have glob : h₁.Ns mainGlobals mg := hg.keeps k
  have blt : h₁.Ns builtinsNs mb := hb.keeps k
  obtain ⟨pl, hec⟩ := T.evc s.heap.objs.size
  refine ks_wpAt_execs_cons (ks_wpAt_Expr_any (ks_wpAt_MethodCall (pl := pl) ?_ hec) (T.int _))
  refine ks_wpAt_super_base (f := fI) (cc := cda) ns1 ns2 (by decide) rfl (X₁ _ _ ho) rfl rfl rfl (X₁ _ _ hcode) rfl hvs hfile T.top ?_
  refine ks_loadName_global sk ns1 (Calls.loadGlobal_builtin glob hgs blt hbs ⟨rfl, ?_⟩)
  refine wpAny_loadName_free sk ns2 rfl ⟨_, X₁ _ _ hcell, rfl⟩ ?_
  have hself : ([(("self" : Str), Value.ref x), (pn, v)] : List (Str × Value)).reverse.lookup ("self" : Str) = some (Value.ref x) := by
    show List.lookup ("self" : Str) [(pn, v), (("self" : Str), Value.ref x)] = _
    have z : (("self" : Str) == pn) = false := by simpa using Ne.symm T.pnz.1
    simp [List.lookup, z]
  have hpn : ([(("self" : Str), Value.ref x), (pn, v)] : List (Str × Value)).reverse.lookup pn = some v := by
    show List.lookup pn [(pn, v), (("self" : Str), Value.ref x)] = _
    simp [List.lookup]
  refine wpAny_loadName_local sk ns3 hn hself ?_
  refine ks_wpAny_isType_cls (X₁ _ _ hC) rfl ⟨rfl, ?_⟩
  refine ks_wpAny_call_super (X₁ _ _ hC) rfl hx₁ rfl (fun c z => by cases z) (looks_mroIn X₁ T.mroC) (fun h₂ hso k₂ => ?_)
  have X₂ : K.In h₂ := X₁.keeps k₂
  have hx₂ := k₂ _ _ hx₁
  have IA : InstAt h₂ x (excO C t0) C none := ⟨hx₂, rfl, rfl, trivial⟩
  have hsup := T.sup
  unfold ks_superIn at hsup
  rw [hcl] at hsup
  refine kxs_getMethod kxs_ValueError hso (looks_opaque X₂ T.opq) (l₀ := .ref C :: bm) (fun A Q E s k q => wpAny_bind ((looks_clsIn X₂ hcl) A _ E s k (wpAny_pure q))) rfl X₂ hsup (IA.type.andThen (looks_subIn X₂ T.subB)) (ks_ne X₂ IA hcl) (by decide) ?_
  -- the wrapper is called
  generalize hL : s.heap.objs.size = L at *
  have k3 : ∀ b o, h₂.get? b = some o → (h₂.push (kxs_mw "ValueError.__init__" x)).get? b = some o := fun b o e => Heap.get?_push_of_some _ e
  have hu : (h₂.push (kxs_mw "ValueError.__init__" x)).get? h₂.objs.size = some (kxs_mw "ValueError.__init__" x) := Heap.get?_push_size _ rfl
  show wpAny _ _ (callWith ps.p3 (.ref h₂.objs.size) [] (backTo ps.p3 (starEach [e] _)) []) _ _ _
  rw [T.star]
  refine kxs_callWith (i := "ValueError.__init__") (x := x) rfl (evalArgs_plain (spliced_cons (hE _ _ L _ _ (fun b o q => k3 _ _ (k₂ _ _ (k _ _ q))) ((hn.keeps k₂).keeps k3) fun z tz tk => spliced_nil ⟨hu, ?_⟩)))
  have X3 : K.In (h₂.push (kxs_mw "ValueError.__init__" x)) := X₂.keeps k3
  refine wpAny_call (codeAny_of_tree ?_)
  show wpAny _ _ (callAny (.ref h₂.objs.size) ⟨[.str z tz], []⟩) _ _ _
  simp only [callAny]
  refine wpAny_bind (wpAny_load hu ?_)
  simp only [kxs_mw, show (Value.type "method-wrapper" == Value.type "method" || Value.type "method-wrapper" == Value.type "builtin_function_or_method" || Value.type "method-wrapper" == Value.type "method-wrapper") = true by decide, if_true]
  refine KFB.if_so (by decide) ?_
  refine wpAny_bind (check_bound_init F.excBase_ValueError.toExcCallFacts (X3 _ _ hC) (k3 _ _ hx₂) rfl ?_)
  refine wpAny_bind (wpAny_pure (wpAny_pure ?_))
  refine ⟨plainId_quiet F.excBase_ValueError.init.plain _, codeAny_builtin F.excBase_ValueError.initEntry ?_⟩
  refine exc_init_tree (cls := .ref C) (t0 := t0) (dv := none) (c2 := .none) (c3 := .none) (b4 := .bool false) (k3 _ _ hx₂) (by show 1 ≤ sizeLine; rw [sizeLine_eq]; decide) fun h4 k4 hx4 _ => ?_
  have nx : ∀ {b : Addr} {o : Obj}, K.lookup b = some o → b ≠ x := fun {b o} q z => by rw [z, hnx] at q; cases q
  have X4 : K.In h4 := kept_but X3 hnx k4
  have hLx : L ≠ x := hxL
  have n4 : h4.Ns L (fun y => ([(("self" : Str), Value.ref x), (pn, v)] : List (Str × Value)).reverse.lookup y) := by
    obtain ⟨oL, es, ep, eL, r⟩ := (hn.keeps k₂).keeps k3
    exact ⟨oL, es, ep, k4 _ _ hLx eL, r⟩
  refine wpAt_of_wpAny ?_
  refine wpAny_execs_cons (plainObj_wpAny_Assign_Attribute ?_ (by rw [← hL]; exact T.sw _))
  refine ldL n4 hpn ?_ sk ns4 T.pnz.2
  refine ldL n4 hself ?_ sk ns3 (by decide)
  refine set_plain X4 (ox := excO C (h₂.push (kxs_mw "ValueError.__init__" x)).objs.size) (od := none) ⟨hx4, rfl, rfl, trivial⟩ T.sa ?_
  refine exc_osa X4 hx4 hcl (show refsVE (.ref C :: bm) = true from hbm) rfl T.noF (fun h5 tk5 dx k5' dn dne hx5 hn5 => ?_)
  refine wpAny_execs_nil (hq h5 tk5 dx _ ⟨fun b o hb e => k5' b o hb (k4 b o hb (k3 _ _ (k₂ _ _ (k b o e)))), hx5, ?_, dne, hn5⟩)
  refine Nat.le_trans ?_ dn
  obtain ⟨oL, es, ep, eL, r⟩ := n4
  rw [hL]
  exact Nat.le_of_lt (Heap.lt_size eL)
end
end SupX
end PySem
namespace PySem
namespace SupX
open PySem.W PySem.Calls PyProof.Rows PySem.HandSPX
/-- a made one -/
structure OwnMade (h h' : Heap) (e C d : Addr) (f : Str) (v : Value) : Prop where
  keep : ∀ b o, h.get? b = some o → h'.get? b = some o
  new : h.objs.size ≤ e
  obj : ∃ oe vs, h'.get? e = some oe ∧ oe.cls = .ref C ∧ oe.dict = some d ∧ oe.data = .fields vs ∧ vs[1]? = some .none
  dbig : h.objs.size ≤ d
  dne : d ≠ e
  ns : h'.Ns1 d (fun y => if y = f then some v else none)
section
variable {prog : Program} {w : World} {A : Around} {E : Value → Shared → Prop} {R : Result → Shared → Prop} {s : Shared} {K : Frag} {mg mb : Str → Option Value} {C fI cda cc : Addr} {f pn qual : Str} {e : Expr} {ps : Ps} {scope : Scope}
theorem sup_made (T : SupC prog K C fI cda cc f pn qual e ps scope) {v : Value} (X : K.In s.heap) (hlim : s.heap.NoLimit) (hg : s.heap.Ns mainGlobals mg) (hgs : mg "super" = none) (hb : s.heap.Ns builtinsNs mb) (hbs : mb "super" = some (.type "super")) (hroom : A.depth + 1 < recursionLimit)
    (hE : ∀ (x : Addr) (A' : Around) (E' : Value → Shared → Prop) (L : Addr) (s1 : Shared) (Q : Value → Shared → Prop), (∀ b o, s.heap.get? b = some o → s1.heap.get? b = some o) → s1.heap.Ns L (fun y => ([(("self" : Str), Value.ref x), (pn, v)] : List (Str × Value)).reverse.lookup y) → (∀ z tz tk, Q (.str z tz) { s1 with toks := tk }) →
      wpAny (model prog w) A' (eval e (ksEnv qual scope L fI (.ref cda) cc)) Q E' s1)
    (hq : ∀ h' tk e d, OwnMade s.heap h' e C d f v → R (.ok (.ret (.ref e))) { s with heap := h', toks := tk }) :
    codeAny (model prog w) A (.call (.ref C) ⟨[v], []⟩) R s := by
  obtain ⟨nm, q, N, bs, bm, sn, sub, ab, col, dd, k0, k1, k2, k3, k5, hC, hbm⟩ := T.cls
  obtain ⟨hp, g, dr, tk, os⟩ := s
  have k : ∀ b o, hp.get? b = some o → ((hp.push (kdv_tup [v])).push (excO C hp.objs.size)).get? b = some o := fun b o e => Heap.get?_push_of_some _ (Heap.get?_push_of_some _ e)
  have hget : ((hp.push (kdv_tup [v])).push (excO C hp.objs.size)).get? (hp.objs.size + 1) = some (excO C hp.objs.size) := by heap_get
  have hnx : K.lookup (hp.objs.size + 1) = none := by
    cases e : K.lookup (hp.objs.size + 1) with
    | none => rfl
    | some o =>
      have z : hp.get? (hp.objs.size + 1) = some o := X _ _ e
      exact absurd (Nat.lt_of_succ_lt (Heap.lt_size z)) (Nat.lt_irrefl _)
  refine call_own F.excBase_ValueError (fun X => refsVE_contains X bm hbm) (X _ _ hC) (looks_findIn X T.iC) (fun self => bind_fn X self T.tI) (by show 1 ≤ sizeLine; rw [sizeLine_eq]; decide) ?_
  refine sup_init (s := ⟨(hp.push (kdv_tup [v])).push (excO C hp.objs.size), g, dr, tk, os⟩) T (X.keeps k) (hlim.keeps k) (hg.keeps k) hgs (hb.keeps k) hbs hget hnx ?_ (fun A' E' L s1 Q k' hn hQ => hE _ A' E' L s1 Q (fun b o z => k' b o (k b o z)) hn hQ) fun h' tk' dx t1 ⟨k', hx, dn, dne, hns⟩ => ?_
  · show A.depth + 1 < recursionLimit
    exact hroom
  · have old : ∀ b o, hp.get? b = some o → h'.get? b = some o := fun b o e => k' b o (Nat.ne_of_lt (Nat.lt_succ_of_lt (Heap.lt_size e))) (k b o e)
    have z : hp.objs.size + 1 + 1 ≤ dx := by
      first
        | (simpa only [Heap.size_push] using dn)
        | exact dn
        | (have q := dn; rw [Heap.size_push, Heap.size_push] at q; exact q)
    exact ⟨rfl, hq h' tk' (hp.objs.size + 1) dx ⟨old, Nat.le_succ _, ⟨_, _, hx, rfl, rfl, rfl, rfl⟩, Nat.le_trans (Nat.le_trans (Nat.le_succ _) (Nat.le_succ _)) z, dne, hns⟩⟩
end
end SupX
end PySem
namespace L2
open PySem PySem.Spec PyProof.Rows
theorem relO_one {v : V} {v' : Value} {g : Str} (r : RelV v v') (f : Str) : RelO (List.lookup f [(g, v)]) (if f = g then some v' else none) := by
  by_cases hw : f = g
  · subst hw
    rw [if_pos rfl]
    have q : List.lookup f [(f, v)] = some v := by simp [List.lookup]
    rw [q]
    exact r
  · rw [if_neg hw]
    have qw : (f == g) = false := by simpa using hw
    have q2 : List.lookup f [(g, v)] = none := by simp [List.lookup, qw]
    rw [q2]
    trivial
section
variable {X : Cx} {C fI cda cc : Addr} {f pn qual : Str} {ei : Expr} {ps : PySem.SupX.Ps} {scope : Scope} {chk : V → Prop}
/-- C(e) -/
def tMkSup (C : Addr) (f : Str) (chk : V → Prop) (ta : TA) : St → Hp → XK → Prop := fun σ H Q => ta σ H fun vs H1 => ∃ v, vs = [v] ∧ chk v ∧ ∀ d, H1 d = none → Q (.ref C) (some d) (upd H1 d (.xd [(f, v)]))
theorem pmk_sup {a : Expr} {ta : TA} {x : Str} {p pos : Pos} {k : Nat} (T : PySem.SupX.SupC X.prog X.K C fI cda cc f pn qual ei ps scope) (gC : X.mg x = some (.ref C)) (kC : PySem.W.keepIn X.K (.ref C) = true) (rs : Raises X (.ref C)) (hms : X.mg "super" = none)
    (hE : ∀ (v : V) (u : Value) (y : Addr) (A' : Around) (E' : Value → Shared → Prop) (L : Addr) (s1 : Shared) (Q : Value → Shared → Prop), chk v → RelV v u → Mod X.K X.mg s1.heap → s1.heap.Ns L (fun z => ([(("self" : Str), Value.ref y), (pn, u)] : List (Str × Value)).reverse.lookup z) → (∀ z tz tk, Q (.str z tz) { s1 with toks := tk }) →
      wpAny (model X.prog X.w) A' (eval ei (PySem.W.ksEnv qual scope L fI (.ref cda) cc)) Q E' s1)
    (hr : Room k X.A) (ha : PA X [a] ta) (hg : Gl X x) (hdb : (x == ("__debug__" : Str)) = false := by decide)
    (he : starEach (a :: []) X.env = (false, eval a X.env) :: starEach [] X.env := by rfl) (hpl : (backTo pos (starEach [] X.env)).any (·.1) = false := by rfl) :
    PMk X (.Call (.Name x p) [a] [] pos) (tMkSup C f chk ta) := by
  intro pins s σ H Q I h
  refine wpAny_Call_Name_kw (ld_glob I hg gC ?_ hdb)
  refine PySem.W.callWith_K (h₀ := X.base) I.ok.mod.kin kC (thn (ha.run pos pins s σ H _ I h) fun us s1 hh => ?_) he hpl
  obtain ⟨vs, H1, I1, r1, v, ev, hc, q1⟩ := hh
  subst ev
  refine ⟨I1.kIn, ?_⟩
  cases r1 with
  | cons rv rn =>
    rename_i v' us'
    cases rn
    show wpAny _ _ (call (.ref C) [v']) _ _ _
    have hlim := I1.nolimit
    obtain ⟨mb, hb1, hb2⟩ := I1.mod.blt
    obtain ⟨hp, g, dr, tk, os⟩ := s1
    have modk : ∀ h2 : Heap, (∀ b o, hp.get? b = some o → h2.get? b = some o) → Mod X.K X.mg h2 := fun h2 k2 => by
      have kb : ∀ b o, X.base.get? b = some o → h2.get? b = some o := fun b o e => k2 b o (I1.bk b o e)
      exact ⟨I1.mod.kin.keeps kb, I1.mod.glob.keeps kb, ⟨mb, hb1.keeps kb, hb2⟩, I1.mod.nolimit.keeps kb⟩
    refine wpAny_call (PySem.SupX.sup_made T I1.kIn hlim (I1.mod.glob.keeps I1.bk) hms (hb1.keeps I1.bk) ((hb2 _ (by decide)).trans (by first | rfl | kernel_rfl)) (by have := hr.dp; omega) (fun y A' E' L s1 Q k1 hn hQ => hE v v' y A' E' L s1 Q hc rv (modk _ k1) hn hQ) fun h' tk' e d M => ?_)
    show MkP X pins σ Q (.ref e) ⟨h', g, dr, tk', os⟩
    obtain ⟨oe, fv, hoe, hc, hd, hdat, h1⟩ := M.obj
    have hns := M.ns
    obtain ⟨G', g1, g2⟩ := restrict h' fun b => decide (b ≠ e)
    have gk : ∀ b, b ≠ e → G'.get? b = h'.get? b := fun b hb => g1 b (decide_eq_true hb)
    have ge : G'.get? e = none := g2 e (by simp)
    have old : ∀ b o, hp.get? b = some o → G'.get? b = some o := fun b o q => (gk b (Nat.ne_of_lt (Nat.lt_of_lt_of_le (Heap.lt_size q) M.new))).trans (M.keep b o q)
    have ob : ObjOk X.prog X.w (upd H1 d (.xd [(f, v)])) G' d (.xd [(f, v)]) :=
      ⟨_, hns.at (fun o q => (gk d M.dne).trans q), fun f => relO_one rv f⟩
    have J : Inv X pins σ (upd H1 d (.xd [(f, v)])) ⟨G', g, dr, tk', os⟩ := I1.laid (t' := tk') old M.dbig ob
    refine ⟨e, oe, fv, ⟨G', g, dr, tk', os⟩, _, .ref C, some d, rfl, J, fun b o q => ?_, ge, hoe, ⟨hc, hd⟩, hdat, h1, ?_, rfl, I1.bare, rs, q1 d (I1.hok.fresh M.dbig)⟩
    · by_cases hb : b = e
      · have q' : G'.get? b = some o := q
        rw [hb, ge] at q'; cases q'
      · exact (gk b hb).symm.trans q
    · rw [upd_ne (Ne.symm M.dne)]
      exact I1.hok.fresh M.new
end
end L2

namespace Eng
open PySem PySem.Spec PyProof.Rows L2
/-- what such a class wants: the class's facts, the value of the super call's argument -/
structure ExI (P : Program) (w : World) (K : PySem.W.Frag) (mg : Str → Option Value) (fa ca : Nat → Addr) (x : Str) (k : Nat) (f : Str) (chk : D → Bool) : Prop where
  atx : mg x = some (.ref (ca k))
  xf : XfC K (ca k)
  keep : PySem.W.keepIn K (.ref (ca k)) = true
  sub : PySem.W.subIn K (.ref (ca k)) (.type "BaseException") = some true
  typ : PySem.W.typeIn K (.ref (ca k)) = some (.type "type")
  sup : mg "super" = none
  ini : ∃ fI cda cc pn qual e ps scope, PySem.SupX.SupC P K (ca k) fI cda cc f pn qual e ps scope ∧
    ∀ (H : Hp) (v : V) (d : D) (u : Value) (y : Addr) (A' : Around) (E' : Value → Shared → Prop) (L : Addr) (s1 : Shared) (Q : Value → Shared → Prop), Fd ⟨K, fa, []⟩ H v d → chk d = true → RelV v u → L2.Mod K mg s1.heap → s1.heap.Ns L (fun z => ([(("self" : Str), Value.ref y), (pn, u)] : List (Str × Value)).reverse.lookup z) → (∀ z tz tk, Q (.str z tz) { s1 with toks := tk }) →
      wpAny (model P w) A' (eval e (PySem.W.ksEnv qual scope L fI (.ref cda) cc)) Q E' s1
theorem ExI.no {P : Program} {w : World} {K : PySem.W.Frag} {mg : Str → Option Value} {fa ca : Nat → Addr} {x : Str} {k : Nat} {f : Str} {chk : D → Bool} (T : ExI P w K mg fa ca x k f chk) : PySem.W.findIn K (.ref (ca k)) f = some none := by
  obtain ⟨_, _, _, _, _, _, _, _, S, _⟩ := T.ini
  exact S.noF
def pChk (chk : D → Bool) : List D → Option (Option D)
  | [d] => if chk d then some (some d) else none
  | _ => none
theorem mkI {X : Cx} {C : Ct} {W : WX} {fa : Nat → Addr} {x f : Str} {k lv : Nat} {chk : D → Bool} {a : Expr} {ies : IEs} {p pos : Pos} (hK : C.K = ⟨X.K, fa, []⟩) (T : ExI X.prog X.w X.K X.mg fa C.ca x k f chk) (hn : C.an k = f) (hr : Room lv X.A) (hg : Gl X x) (ha : SEs X C W [a] ies) (hdb : (x == ("__debug__" : Str)) = false := by decide)
    (he : starEach (a :: []) X.env = (false, eval a X.env) :: starEach [] X.env := by rfl) (hpl : (backTo pos (starEach [] X.env)).any (·.1) = false := by rfl) :
    PMk X (.Call (.Name x p) [a] [] pos) (fun σ H Q => ∃ e, EnvOk C.K H σ e ∧ fin C W σ e H (fun ds e1 H1 => ∃ o, pChk chk ds = some o ∧ ∀ cls d H2, L2.Same H1 H2 → C.ex H2 cls d ⟨k, o⟩ → Q cls d H2) (evs C.T ies e)) := by
  obtain ⟨fI, cda, cc, pn, qual, e, ps, scope, S, hE⟩ := T.ini
  have R := pmk_sup (X := X) (p := p) (pos := pos) (k := lv) (chk := fun v => ∃ H d, Fd C.K H v d ∧ chk d = true) S T.atx T.keep (raises_own T.sub T.typ) T.sup (fun v u y A' E' L s1 Q ⟨H, d, h1, h2⟩ r m n q => hE H v d u y A' E' L s1 Q (hK ▸ h1) h2 r m n q) hr ha hg hdb he hpl
  intro pins s σ H Q I ⟨e0, E, q⟩
  refine R pins s σ H Q I ?_
  refine ⟨e0, E, q.mono fun ds e1 H1 g ⟨o, ho, k1⟩ vs r => ?_⟩
  unfold pChk at ho
  split at ho
  · split at ho
    · rename_i hc
      cases ho
      obtain ⟨v, rfl, rv⟩ := fd1 r
      refine ⟨v, rfl, ⟨H1, _, rv, hc⟩, fun d hd => k1 _ _ _ (upd_sameH hd) ⟨rfl, d, v, rfl, ?_, rv.kt (KT.same (upd_sameH hd))⟩⟩
      show (upd H1 d (.xd [(f, v)])) d = some (.xd [(C.an k, v)])
      rw [hn]
      exact upd_same
    · cases ho
  · cases ho
end Eng
namespace Eng
open PySem PySem.Spec PyProof.Rows L2
def chkCat (s1 : Str) (d : D) : Bool := match pStr [d] with
  | some z => (pAdd [.str s1, z]).isSome
  | none => false
/-- 'at ' + str(p) in such an __init__ -/
theorem ev_cat {P : Program} {w : World} {K : PySem.W.Frag} {mg : Str → Option Value} {fa : Nat → Addr} {qual pn s1 : Str} {scope : Scope} {fI cda cc : Addr} {j : Nat} {a1 a2 a3 a4 a5 : Pos} (hms : mg "str" = none) (sk : scope.kind = .function) (n1 : scope.names.lookup ("str" : Str) = some .globalImplicit) (n2 : scope.names.lookup pn = some .local) (hd : (pn == ("__debug__" : Str)) = false) (hne : pn ≠ "self")
    (he : ∀ L, starEach [.Name pn a3] (PySem.W.ksEnv qual scope L fI (.ref cda) cc) = (false, eval (.Name pn a3) (PySem.W.ksEnv qual scope L fI (.ref cda) cc)) :: starEach [] (PySem.W.ksEnv qual scope L fI (.ref cda) cc)) :
    ∀ (H : Hp) (v : V) (d : D) (u : Value) (y : Addr) (A' : Around) (E' : Value → Shared → Prop) (L : Addr) (s : Shared) (Q : Value → Shared → Prop), Fd ⟨K, fa, []⟩ H v d → chkCat s1 d = true → RelV v u → L2.Mod K mg s.heap → s.heap.Ns L (fun z => ([(("self" : Str), Value.ref y), (pn, u)] : List (Str × Value)).reverse.lookup z) → (∀ z tz tk, Q (.str z tz) { s with toks := tk }) →
      wpAny (model P w) A' (eval (.BinOp (.Constant (.str s1) j a1) .Add (.Call (.Name "str" a2) [.Name pn a3] [] a4) a5) (PySem.W.ksEnv qual scope L fI (.ref cda) cc)) Q E' s := by
  intro H v d u y A' E' L s Q r hc ru M hn hQ
  obtain ⟨mb, hb1, hb2⟩ := M.blt
  have hpn : ([(("self" : Str), Value.ref y), (pn, u)] : List (Str × Value)).reverse.lookup pn = some u := by
    show List.lookup pn [(pn, u), (("self" : Str), Value.ref y)] = _
    simp [List.lookup]
  -- the text's length
  have done : ∀ (z : Str) (t1 t2 : Tok) (tk : Nat), s1.length + z.length ≤ 16777216 → wpAny (model P w) A' (binaryOp .Add (.str s1 t1) (.str z t2)) Q E' { s with toks := tk } := fun z t1 t2 tk hz => PyProof.Rows.add_str (fun t' tk => hQ _ _ _) (sz_ge hz)
  refine wpAny_BinOp (Calls.Constant_str ?_)
  refine wpAny_Call_Name_kw (Calls.Name_function_global sk n1 (Calls.loadGlobal_builtin (M.glob) hms hb1 ((hb2 _ (by decide)).trans (show bootBuiltins "str" = some (.type "str") by first | rfl | kernel_rfl)) ?_))
  refine PyProof.Rows.callWith_type1 ?_ (he L) rfl
  rw [he L]
  refine Calls.spliced_cons (PySem.SupX.ldL (s := { s with toks := s.toks + 1 }) hn hpn (Calls.spliced_nil ?_) sk n2 hd)
  cases r with
  | int i =>
    obtain ⟨t, rfl⟩ := ru
    by_cases hz : okStr i = true
    · simp only [chkCat, pStr, pAdd, hz, if_true] at hc
      by_cases hz2 : s1.length + (toString i : Str).length ≤ 16777216
      · unfold okStr at hz
        rw [decide_eq_true_eq] at hz
        exact PySem.P.str_of_int hz (done _ _ _ _ hz2)
      · rw [if_neg hz2] at hc; cases hc
    · simp only [chkCat, pStr, pAdd, hz, if_false] at hc
      cases hc
  | str z =>
    obtain ⟨t, rfl⟩ := ru
    simp only [chkCat, pStr, pAdd] at hc
    by_cases hz2 : s1.length + z.length ≤ 16777216
    · exact PySem.P.str_of_str (done _ _ _ _ hz2)
    · rw [if_neg hz2] at hc; cases hc
  | _ => cases hc
end Eng

set_option Elab.async false
set_option linter.all false
set_option maxRecDepth 100000
namespace Lw
open PySem PySem.Spec PyProof.Rows L2 Eng
def an : Nat → Str := fun k => "at"
abbrev DEPTH : Nat := 6
/-! ### the defs as data -/
def chk_NoText : D → Bool := chkCat "at "
def ir_is_whole : IS := .ret (.val (.and (.prim (pIsi "int") (.cons (.v 0) .nil)) (.not (.prim (pIsi "bool") (.cons (.v 0) .nil)))))
def ir_read_whole : IS := .seq (.ife (.not (.prim (pIsi "str") (.cons (.v 0) .nil))) (.raise 1 (pChk chk_NoText) (.cons (.c (.int 0)) (.nil))) (.nop)) (.seq (.put (.n 1) (.ite (.prim pEq (.cons (.prim pSl01 (.cons (.v 0) (.cons (.c (.int 1)) (.nil)))) (.cons (.c (.str "-")) .nil))) (.prim pSl10 (.cons (.v 0) (.cons (.c (.int 1)) (.nil)))) (.v 0))) (.seq (.ife (.or (.prim pLt (.cons (.prim pLen (.cons (.v 1) (.nil))) (.cons (.c (.int 1)) .nil))) (.or (.prim pGt (.cons (.prim pLen (.cons (.v 1) (.nil))) (.cons (.c (.int 4000)) .nil))) (.not (.prim pAll (.cons (.comp [2] (.n 2) (.mk pItems (.cons (.v 1) .nil)) (.c (.bl true)) (.prim pIn (.cons (.v 2) (.cons (.c (.str "0123456789")) .nil)))) (.nil)))))) (.raise 1 (pChk chk_NoText) (.cons (.c (.int 0)) (.nil))) (.nop)) (.seq (.ife (.and (.prim pEq (.cons (.prim pIx (.cons (.v 1) (.cons (.c (.int 0)) .nil))) (.cons (.c (.str "0")) .nil))) (.prim pNe (.cons (.v 0) (.cons (.c (.str "0")) .nil)))) (.raise 1 (pChk chk_NoText) (.cons (.c (.int 0)) (.nil))) (.nop)) (.ret (.val (.prim pInt (.cons (.v 0) (.nil))))))))
def ir_common : IS := .seq (.par 0 1 (.val (.prim pAbs (.cons (.v 0) (.nil)))) (.val (.prim pAbs (.cons (.v 1) (.nil))))) (.seq (.while (.prim pNe (.cons (.v 1) (.cons (.c (.int 0)) .nil))) (.par 0 1 (.val (.v 1)) (.val (.prim pMod (.cons (.v 0) (.cons (.v 1) .nil)))))) (.ret (.val (.v 0))))
def ir_lowest : IS := .seq (.put (.n 2) (.call 2 (.e (.v 0) (.e (.v 1) (.nil))))) (.seq (.ife (.prim pLt (.cons (.v 1) (.cons (.c (.int 0)) .nil))) (.put (.n 2) (.prim pNeg (.cons (.v 2) .nil))) (.nop)) (.ret (.val (.prim pTup (.cons (.prim pDiv (.cons (.v 0) (.cons (.v 2) .nil))) (.cons (.prim pDiv (.cons (.v 1) (.cons (.v 2) .nil))) (.nil)))))))
def ir_ratio : IS := .seq (.ife (.or (.not (.call 0 (.e (.v 0) (.nil)))) (.or (.not (.call 0 (.e (.v 1) (.nil)))) (.prim pEq (.cons (.v 1) (.cons (.c (.int 0)) .nil))))) (.raise 0 (fun _ => some none) .nil) (.nop)) (.ret (.val (.call 3 (.e (.v 0) (.e (.v 1) (.nil))))))
def ir_is_ratio : IS := .seq (.ife (.or (.not (.prim (pIsi "tuple") (.cons (.v 0) .nil))) (.or (.prim pNe (.cons (.prim pLen (.cons (.v 0) (.nil))) (.cons (.c (.int 2)) .nil))) (.or (.not (.call 0 (.e (.prim pIx (.cons (.v 0) (.cons (.c (.int 0)) .nil))) (.nil)))) (.not (.call 0 (.e (.prim pIx (.cons (.v 0) (.cons (.c (.int 1)) .nil))) (.nil))))))) (.ret (.val (.c (.bl false)))) (.nop)) (.ret (.val (.and (.prim pGt (.cons (.prim pIx (.cons (.v 0) (.cons (.c (.int 1)) .nil))) (.cons (.c (.int 0)) .nil))) (.prim pEq (.cons (.call 2 (.e (.prim pIx (.cons (.v 0) (.cons (.c (.int 0)) .nil))) (.e (.prim pIx (.cons (.v 0) (.cons (.c (.int 1)) .nil))) (.nil)))) (.cons (.c (.int 1)) .nil))))))
def ir_plus : IS := .ret (.val (.call 3 (.e (.prim pAdd (.cons (.prim pMul (.cons (.prim pIx (.cons (.v 0) (.cons (.c (.int 0)) .nil))) (.cons (.prim pIx (.cons (.v 1) (.cons (.c (.int 1)) .nil))) .nil))) (.cons (.prim pMul (.cons (.prim pIx (.cons (.v 1) (.cons (.c (.int 0)) .nil))) (.cons (.prim pIx (.cons (.v 0) (.cons (.c (.int 1)) .nil))) .nil))) .nil))) (.e (.prim pMul (.cons (.prim pIx (.cons (.v 0) (.cons (.c (.int 1)) .nil))) (.cons (.prim pIx (.cons (.v 1) (.cons (.c (.int 1)) .nil))) .nil))) (.nil)))))
def ir_minus : IS := .ret (.val (.call 3 (.e (.prim pSub (.cons (.prim pMul (.cons (.prim pIx (.cons (.v 0) (.cons (.c (.int 0)) .nil))) (.cons (.prim pIx (.cons (.v 1) (.cons (.c (.int 1)) .nil))) .nil))) (.cons (.prim pMul (.cons (.prim pIx (.cons (.v 1) (.cons (.c (.int 0)) .nil))) (.cons (.prim pIx (.cons (.v 0) (.cons (.c (.int 1)) .nil))) .nil))) .nil))) (.e (.prim pMul (.cons (.prim pIx (.cons (.v 0) (.cons (.c (.int 1)) .nil))) (.cons (.prim pIx (.cons (.v 1) (.cons (.c (.int 1)) .nil))) .nil))) (.nil)))))
def ir_times : IS := .ret (.val (.call 3 (.e (.prim pMul (.cons (.prim pIx (.cons (.v 0) (.cons (.c (.int 0)) .nil))) (.cons (.prim pIx (.cons (.v 1) (.cons (.c (.int 0)) .nil))) .nil))) (.e (.prim pMul (.cons (.prim pIx (.cons (.v 0) (.cons (.c (.int 1)) .nil))) (.cons (.prim pIx (.cons (.v 1) (.cons (.c (.int 1)) .nil))) .nil))) (.nil)))))
def ir_over : IS := .seq (.ife (.prim pEq (.cons (.prim pIx (.cons (.v 1) (.cons (.c (.int 0)) .nil))) (.cons (.c (.int 0)) .nil))) (.raise 0 (fun _ => some none) .nil) (.nop)) (.ret (.val (.call 3 (.e (.prim pMul (.cons (.prim pIx (.cons (.v 0) (.cons (.c (.int 0)) .nil))) (.cons (.prim pIx (.cons (.v 1) (.cons (.c (.int 1)) .nil))) .nil))) (.e (.prim pMul (.cons (.prim pIx (.cons (.v 0) (.cons (.c (.int 1)) .nil))) (.cons (.prim pIx (.cons (.v 1) (.cons (.c (.int 0)) .nil))) .nil))) (.nil))))))
def ir_below : IS := .ret (.val (.prim pLt (.cons (.prim pMul (.cons (.prim pIx (.cons (.v 0) (.cons (.c (.int 0)) .nil))) (.cons (.prim pIx (.cons (.v 1) (.cons (.c (.int 1)) .nil))) .nil))) (.cons (.prim pMul (.cons (.prim pIx (.cons (.v 1) (.cons (.c (.int 0)) .nil))) (.cons (.prim pIx (.cons (.v 0) (.cons (.c (.int 1)) .nil))) .nil))) .nil))))
def lb_total_0 : IS := .ife (.prim pNe (.cons (.prim pIx (.cons (.v 2) (.cons (.c (.int 0)) .nil))) (.cons (.c (.int 0)) .nil))) (.put (.n 1) (.call 6 (.e (.v 1) (.e (.v 2) (.nil))))) (.nop)
def fr_total_0 : IS := .for (.n 2) (.mk pItems (.cons (.v 0) .nil)) (lb_total_0)
def ir_total : IS := .seq (.put (.n 1) (.c (.tup [(.int 0), (.int 1)]))) (.seq (fr_total_0) (.ret (.val (.v 1))))
def ir_lesser : IS := .ret (.val (.ite (.call 10 (.e (.v 1) (.e (.v 0) (.nil)))) (.v 1) (.v 0)))
def ir_greater : IS := .ret (.val (.ite (.call 10 (.e (.v 0) (.e (.v 1) (.nil)))) (.v 1) (.v 0)))
def ir_ratio_text : IS := .ret (.val (.ite (.prim pEq (.cons (.prim pIx (.cons (.v 0) (.cons (.c (.int 1)) .nil))) (.cons (.c (.int 1)) .nil))) (.prim pStr (.cons (.prim pIx (.cons (.v 0) (.cons (.c (.int 0)) .nil))) (.nil))) (.prim pAdd (.cons (.prim pAdd (.cons (.prim pStr (.cons (.prim pIx (.cons (.v 0) (.cons (.c (.int 0)) .nil))) (.nil))) (.cons (.c (.str "/")) .nil))) (.cons (.prim pStr (.cons (.prim pIx (.cons (.v 0) (.cons (.c (.int 1)) .nil))) (.nil))) .nil)))))
def ir_read_ratio : IS := .seq (.ife (.not (.prim (pIsi "str") (.cons (.v 0) .nil))) (.raise 1 (pChk chk_NoText) (.cons (.c (.int 0)) (.nil))) (.nop)) (.seq (.put (.t [.n 1, .n 2, .n 3]) (.prim pPart (.cons (.prim pS (.cons (.v 0) .nil)) (.cons (.c (.str "/")) .nil)))) (.seq (.put (.n 4) (.prim pTup (.cons (.call 1 (.e (.v 1) (.nil))) (.cons (.ite (.prim pNe (.cons (.v 2) (.cons (.c (.str "")) .nil))) (.call 1 (.e (.v 3) (.nil))) (.c (.int 1))) (.nil))))) (.seq (.ife (.or (.not (.call 5 (.e (.v 4) (.nil)))) (.and (.prim pNe (.cons (.v 2) (.cons (.c (.str "")) .nil))) (.prim pEq (.cons (.prim pIx (.cons (.v 4) (.cons (.c (.int 1)) .nil))) (.cons (.c (.int 1)) .nil))))) (.raise 1 (pChk chk_NoText) (.cons (.c (.int 0)) (.nil))) (.nop)) (.ret (.val (.v 4))))))
def lb__law_draw_0 : IS := .put (.n 1) (.prim pMod (.cons (.prim pInt (.cons (.prim pAdd (.cons (.prim pAdd (.cons (.prim pMul (.cons (.v 1) (.cons (.c (.int 48271)) .nil))) (.cons (.prim pMod (.cons (.prim pAbs (.cons (.prim pInt (.cons (.v 2) (.nil))) (.nil))) (.cons (.c (.int 65521)) .nil))) .nil))) (.cons (.c (.int 1)) .nil))) (.nil))) (.cons (.c (.int 2147483647)) .nil)))
def fr__law_draw_0 : IS := .for (.n 2) (.mk pItems (.cons (.v 0) .nil)) (lb__law_draw_0)
def ir__law_draw : IS := .seq (.put (.n 1) (.c (.int 7))) (.seq (fr__law_draw_0) (.ret (.fr mLst (.cons (.comp [2] (.n 2) (.mk pItems (.cons (.v 0) .nil)) (.c (.bl true)) (.prim pAbs (.cons (.prim pInt (.cons (.v 2) (.nil))) (.nil)))) (.cons (.prim pNeg (.cons (.c (.int 1)) .nil)) (.cons (.c (.int 0)) (.cons (.v 1) (.nil))))))))
def ir__law_take : IS := .seq (.ife (.prim pEq (.cons (.slot 0 fIx (.cons (.c (.int 2)) .nil)) (.cons (.c (.int 0)) .nil))) (.seq (.ex (.smut true 0 fSet (.cons (.prim pAdd (.cons (.slot 0 fIx (.cons (.c (.int 1)) .nil)) (.cons (.c (.int 1)) .nil))) (.cons (.c (.int 1)) .nil)))) (.seq (.ife (.prim pLt (.cons (.slot 0 fIx (.cons (.c (.int 1)) .nil)) (.cons (.prim pLen (.cons (.slot 0 fIx (.cons (.c (.int 0)) .nil)) (.nil))) .nil))) (.ex (.smut true 0 fSet (.cons (.prim pIx (.cons (.slot 0 fIx (.cons (.c (.int 0)) .nil)) (.cons (.slot 0 fIx (.cons (.c (.int 1)) .nil)) .nil))) (.cons (.c (.int 2)) .nil)))) (.nop)) (.ife (.prim pEq (.cons (.slot 0 fIx (.cons (.c (.int 2)) .nil)) (.cons (.c (.int 0)) .nil))) (.seq (.ex (.smut true 0 fSet (.cons (.prim pMod (.cons (.prim pInt (.cons (.prim pAdd (.cons (.prim pMul (.cons (.slot 0 fIx (.cons (.c (.int 3)) .nil)) (.cons (.c (.int 48271)) .nil))) (.cons (.c (.int 11)) .nil))) (.nil))) (.cons (.c (.int 2147483647)) .nil))) (.cons (.c (.int 3)) .nil)))) (.ex (.smut true 0 fSet (.cons (.slot 0 fIx (.cons (.c (.int 3)) .nil)) (.cons (.c (.int 2)) .nil))))) (.nop)))) (.nop)) (.seq (.put (.n 2) (.prim pMod (.cons (.prim pInt (.cons (.slot 0 fIx (.cons (.c (.int 2)) .nil)) (.nil))) (.cons (.v 1) .nil)))) (.seq (.ex (.smut true 0 fSet (.cons (.prim pDiv (.cons (.slot 0 fIx (.cons (.c (.int 2)) .nil)) (.cons (.v 1) .nil))) (.cons (.c (.int 2)) .nil)))) (.ret (.val (.v 2)))))
def ir__law_low : IS := .seq (.par 2 3 (.val (.prim pAbs (.cons (.v 0) (.nil)))) (.val (.prim pAbs (.cons (.v 1) (.nil))))) (.seq (.while (.prim pNe (.cons (.v 3) (.cons (.c (.int 0)) .nil))) (.par 2 3 (.val (.v 3)) (.val (.prim pMod (.cons (.v 2) (.cons (.v 3) .nil)))))) (.ret (.val (.ite (.prim pGt (.cons (.v 1) (.cons (.c (.int 0)) .nil))) (.prim pTup (.cons (.prim pDiv (.cons (.v 0) (.cons (.v 2) .nil))) (.cons (.prim pDiv (.cons (.v 1) (.cons (.v 2) .nil))) (.nil)))) (.prim pTup (.cons (.prim pDiv (.cons (.prim pSub (.cons (.c (.int 0)) (.cons (.v 0) .nil))) (.cons (.v 2) .nil))) (.cons (.prim pDiv (.cons (.prim pSub (.cons (.c (.int 0)) (.cons (.v 1) .nil))) (.cons (.v 2) .nil))) (.nil))))))))
def ir__law_number : IS := .seq (.put (.n 1) (.prim pIx (.cons (.prim pLst (.cons (.c (.int 3)) (.cons (.c (.int 20)) (.cons (.c (.int 1000)) (.cons (.prim pPow (.cons (.c (.int 10)) (.cons (.c (.int 18)) .nil))) (.cons (.prim pPow (.cons (.c (.int 10)) (.cons (.c (.int 40)) .nil))) (.nil))))))) (.cons (.call 17 (.s 0 (.e (.c (.int 5)) (.nil)))) .nil)))) (.ret (.val (.ite (.prim pGt (.cons (.call 17 (.s 0 (.e (.c (.int 6)) (.nil)))) (.cons (.c (.int 0)) .nil))) (.prim pMul (.cons (.prim pAdd (.cons (.call 17 (.s 0 (.e (.v 1) (.nil)))) (.cons (.c (.int 1)) .nil))) (.cons (.ite (.prim pEq (.cons (.call 17 (.s 0 (.e (.c (.int 2)) (.nil)))) (.cons (.c (.int 0)) .nil))) (.c (.int 1)) (.prim pNeg (.cons (.c (.int 1)) .nil))) .nil))) (.c (.int 0)))))
def ir__law_text : IS := .ret (.val (.ite (.prim pEq (.cons (.prim pIx (.cons (.v 0) (.cons (.c (.int 1)) .nil))) (.cons (.c (.int 1)) .nil))) (.prim pStr (.cons (.prim pIx (.cons (.v 0) (.cons (.c (.int 0)) .nil))) (.nil))) (.prim pAdd (.cons (.prim pAdd (.cons (.prim pStr (.cons (.prim pIx (.cons (.v 0) (.cons (.c (.int 0)) .nil))) (.nil))) (.cons (.c (.str "/")) .nil))) (.cons (.prim pStr (.cons (.prim pIx (.cons (.v 0) (.cons (.c (.int 1)) .nil))) (.nil))) .nil)))))
def ir__law_read : IS := .try (.ret (.val (.dcall (.prim pIx (.cons (.prim pLst (.cons (.c (.fn 1)) (.cons (.c (.fn 15)) (.nil)))) (.cons (.v 0) .nil))) (.e (.v 1) (.nil))))) 1 [2] (hndS 2 "<" ">")
def ir__law_ask : IS := .try (.ret (.val (.dcall (.prim pIx (.cons (.prim pLst (.cons (.c (.fn 4)) (.cons (.c (.fn 9)) (.nil)))) (.cons (.v 0) .nil))) (.e (.v 1) (.e (.v 2) (.nil)))))) 0 [] (fun _ => .ret (.val (.c (.str "<malformed>"))))
def ir__law_digits : IS := .ret (.val (.and (.prim pNe (.cons (.v 0) (.cons (.c (.str "")) .nil))) (.and (.prim pAll (.cons (.comp [1] (.n 1) (.mk pItems (.cons (.v 0) .nil)) (.c (.bl true)) (.prim pIn (.cons (.v 1) (.cons (.c (.str "0123456789")) .nil)))) (.nil))) (.or (.prim pEq (.cons (.v 0) (.cons (.c (.str "0")) .nil))) (.prim pNe (.cons (.prim pIx (.cons (.v 0) (.cons (.c (.int 0)) .nil))) (.cons (.c (.str "0")) .nil)))))))
def ir__law_good_whole : IS := .ret (.val (.and (.prim (pIsi "str") (.cons (.v 0) .nil)) (.and (.prim pNe (.cons (.v 0) (.cons (.c (.str "-0")) .nil))) (.call 23 (.e (.ite (.prim pEq (.cons (.prim pSl01 (.cons (.v 0) (.cons (.c (.int 1)) (.nil)))) (.cons (.c (.str "-")) .nil))) (.prim pSl10 (.cons (.v 0) (.cons (.c (.int 1)) (.nil)))) (.v 0)) (.nil))))))
def ir__law_good_ratio : IS := .seq (.ife (.not (.prim (pIsi "str") (.cons (.v 0) .nil))) (.ret (.val (.c (.bl false)))) (.nop)) (.seq (.put (.n 1) (.prim pSplit (.cons (.prim pS (.cons (.v 0) .nil)) (.cons (.c (.str "/")) .nil)))) (.seq (.ife (.prim pEq (.cons (.prim pLen (.cons (.v 1) (.nil))) (.cons (.c (.int 1)) .nil))) (.ret (.val (.call 24 (.e (.v 0) (.nil))))) (.nop)) (.seq (.ife (.or (.prim pNe (.cons (.prim pLen (.cons (.v 1) (.nil))) (.cons (.c (.int 2)) .nil))) (.or (.not (.call 24 (.e (.prim pIx (.cons (.v 1) (.cons (.c (.int 0)) .nil))) (.nil)))) (.or (.not (.call 23 (.e (.prim pIx (.cons (.v 1) (.cons (.c (.int 1)) .nil))) (.nil)))) (.prim pIn (.cons (.prim pIx (.cons (.v 1) (.cons (.c (.int 1)) .nil))) (.cons (.prim pLst (.cons (.c (.str "0")) (.cons (.c (.str "1")) (.nil)))) .nil)))))) (.ret (.val (.c (.bl false)))) (.nop)) (.ret (.val (.prim pEq (.cons (.call 18 (.e (.prim pInt (.cons (.prim pIx (.cons (.v 1) (.cons (.c (.int 0)) .nil))) (.nil))) (.e (.prim pInt (.cons (.prim pIx (.cons (.v 1) (.cons (.c (.int 1)) .nil))) (.nil))) (.nil)))) (.cons (.prim pTup (.cons (.prim pInt (.cons (.prim pIx (.cons (.v 1) (.cons (.c (.int 0)) .nil))) (.nil))) (.cons (.prim pInt (.cons (.prim pIx (.cons (.v 1) (.cons (.c (.int 1)) .nil))) (.nil))) (.nil)))) .nil))))))))
def lb_law_0 : IS := .seq (.par 4 5 (.val (.call 19 (.s 1 (.nil)))) (.val (.call 19 (.s 1 (.nil))))) (.seq (.put (.n 6) (.ite (.prim pEq (.cons (.v 5) (.cons (.c (.int 0)) .nil))) (.c (.str "<malformed>")) (.call 18 (.e (.v 4) (.e (.v 5) (.nil)))))) (.seq (.ife (.or (.prim pNe (.cons (.call 22 (.e (.c (.int 0)) (.e (.v 4) (.e (.v 5) (.nil))))) (.cons (.v 6) .nil))) (.prim pNe (.cons (.call 5 (.e (.prim pTup (.cons (.v 4) (.cons (.v 5) (.nil)))) (.nil))) (.cons (.and (.prim pGt (.cons (.v 5) (.cons (.c (.int 0)) .nil))) (.prim pEq (.cons (.v 6) (.cons (.prim pTup (.cons (.v 4) (.cons (.v 5) (.nil)))) .nil)))) .nil)))) (.ret (.val (.c (.bl false)))) (.nop)) (.put (.n 2) (.prim pAdd (.cons (.v 2) (.cons (.ite (.prim pNe (.cons (.v 5) (.cons (.c (.int 0)) .nil))) (.prim pLst (.cons (.v 6) (.nil))) (.prim pLst (.nil))) .nil))))))
def fr_law_0 : IS := .for (.n 3) (.mk pRange1 (.cons (.c (.int 6)) .nil)) (lb_law_0)
def lb_law_1 : IS := .seq (.par 7 8 (.val (.prim pIx (.cons (.v 2) (.cons (.call 17 (.s 1 (.e (.prim pLen (.cons (.v 2) (.nil))) (.nil)))) .nil)))) (.val (.prim pIx (.cons (.v 2) (.cons (.call 17 (.s 1 (.e (.prim pLen (.cons (.v 2) (.nil))) (.nil)))) .nil))))) (.seq (.ife (.or (.prim pNe (.cons (.call 6 (.e (.v 7) (.e (.v 8) (.nil)))) (.cons (.call 18 (.e (.prim pAdd (.cons (.prim pMul (.cons (.prim pIx (.cons (.v 7) (.cons (.c (.int 0)) .nil))) (.cons (.prim pIx (.cons (.v 8) (.cons (.c (.int 1)) .nil))) .nil))) (.cons (.prim pMul (.cons (.prim pIx (.cons (.v 8) (.cons (.c (.int 0)) .nil))) (.cons (.prim pIx (.cons (.v 7) (.cons (.c (.int 1)) .nil))) .nil))) .nil))) (.e (.prim pMul (.cons (.prim pIx (.cons (.v 7) (.cons (.c (.int 1)) .nil))) (.cons (.prim pIx (.cons (.v 8) (.cons (.c (.int 1)) .nil))) .nil))) (.nil)))) .nil))) (.prim pNe (.cons (.call 7 (.e (.v 7) (.e (.v 8) (.nil)))) (.cons (.call 18 (.e (.prim pSub (.cons (.prim pMul (.cons (.prim pIx (.cons (.v 7) (.cons (.c (.int 0)) .nil))) (.cons (.prim pIx (.cons (.v 8) (.cons (.c (.int 1)) .nil))) .nil))) (.cons (.prim pMul (.cons (.prim pIx (.cons (.v 8) (.cons (.c (.int 0)) .nil))) (.cons (.prim pIx (.cons (.v 7) (.cons (.c (.int 1)) .nil))) .nil))) .nil))) (.e (.prim pMul (.cons (.prim pIx (.cons (.v 7) (.cons (.c (.int 1)) .nil))) (.cons (.prim pIx (.cons (.v 8) (.cons (.c (.int 1)) .nil))) .nil))) (.nil)))) .nil)))) (.ret (.val (.c (.bl false)))) (.nop)) (.seq (.ife (.or (.prim pNe (.cons (.call 8 (.e (.v 7) (.e (.v 8) (.nil)))) (.cons (.call 18 (.e (.prim pMul (.cons (.prim pIx (.cons (.v 7) (.cons (.c (.int 0)) .nil))) (.cons (.prim pIx (.cons (.v 8) (.cons (.c (.int 0)) .nil))) .nil))) (.e (.prim pMul (.cons (.prim pIx (.cons (.v 7) (.cons (.c (.int 1)) .nil))) (.cons (.prim pIx (.cons (.v 8) (.cons (.c (.int 1)) .nil))) .nil))) (.nil)))) .nil))) (.prim pNe (.cons (.call 22 (.e (.c (.int 1)) (.e (.v 7) (.e (.v 8) (.nil))))) (.cons (.ite (.prim pEq (.cons (.prim pIx (.cons (.v 8) (.cons (.c (.int 0)) .nil))) (.cons (.c (.int 0)) .nil))) (.c (.str "<malformed>")) (.call 18 (.e (.prim pMul (.cons (.prim pIx (.cons (.v 7) (.cons (.c (.int 0)) .nil))) (.cons (.prim pIx (.cons (.v 8) (.cons (.c (.int 1)) .nil))) .nil))) (.e (.prim pMul (.cons (.prim pIx (.cons (.v 7) (.cons (.c (.int 1)) .nil))) (.cons (.prim pIx (.cons (.v 8) (.cons (.c (.int 0)) .nil))) .nil))) (.nil))))) .nil)))) (.ret (.val (.c (.bl false)))) (.nop)) (.seq (.put (.n 9) (.prim pLst (.cons (.call 18 (.e (.prim pAdd (.cons (.prim pMul (.cons (.prim pIx (.cons (.v 7) (.cons (.c (.int 0)) .nil))) (.cons (.prim pIx (.cons (.v 8) (.cons (.c (.int 1)) .nil))) .nil))) (.cons (.prim pMul (.cons (.prim pIx (.cons (.v 8) (.cons (.c (.int 0)) .nil))) (.cons (.prim pIx (.cons (.v 7) (.cons (.c (.int 1)) .nil))) .nil))) .nil))) (.e (.prim pMul (.cons (.prim pIx (.cons (.v 7) (.cons (.c (.int 1)) .nil))) (.cons (.prim pIx (.cons (.v 8) (.cons (.c (.int 1)) .nil))) .nil))) (.nil)))) (.cons (.call 18 (.e (.prim pMul (.cons (.prim pIx (.cons (.v 7) (.cons (.c (.int 0)) .nil))) (.cons (.prim pIx (.cons (.v 8) (.cons (.c (.int 0)) .nil))) .nil))) (.e (.prim pMul (.cons (.prim pIx (.cons (.v 7) (.cons (.c (.int 1)) .nil))) (.cons (.prim pIx (.cons (.v 8) (.cons (.c (.int 1)) .nil))) .nil))) (.nil)))) (.nil))))) (.seq (.ife (.prim pNe (.cons (.prim pRepr (.cons (.prim pLst (.cons (.call 6 (.e (.v 7) (.e (.v 8) (.nil)))) (.cons (.call 8 (.e (.v 7) (.e (.v 8) (.nil)))) (.cons (.call 14 (.e (.v 7) (.nil))) (.nil))))) (.nil))) (.cons (.prim pRepr (.cons (.prim pAdd (.cons (.v 9) (.cons (.prim pLst (.cons (.call 20 (.e (.v 7) (.nil))) (.nil))) .nil))) (.nil))) .nil))) (.ret (.val (.c (.bl false)))) (.nop)) (.seq (.put (.n 10) (.prim pLt (.cons (.prim pMul (.cons (.prim pIx (.cons (.v 7) (.cons (.c (.int 0)) .nil))) (.cons (.prim pIx (.cons (.v 8) (.cons (.c (.int 1)) .nil))) .nil))) (.cons (.prim pMul (.cons (.prim pIx (.cons (.v 8) (.cons (.c (.int 0)) .nil))) (.cons (.prim pIx (.cons (.v 7) (.cons (.c (.int 1)) .nil))) .nil))) .nil)))) (.seq (.ife (.or (.prim pNe (.cons (.call 10 (.e (.v 7) (.e (.v 8) (.nil)))) (.cons (.v 10) .nil))) (.or (.prim pNe (.cons (.call 12 (.e (.v 7) (.e (.v 8) (.nil)))) (.cons (.ite (.v 10) (.v 7) (.v 8)) .nil))) (.prim pNe (.cons (.call 13 (.e (.v 7) (.e (.v 8) (.nil)))) (.cons (.ite (.v 10) (.v 8) (.v 7)) .nil))))) (.ret (.val (.c (.bl false)))) (.nop)) (.ife (.or (.prim pNe (.cons (.call 14 (.e (.v 7) (.nil))) (.cons (.call 20 (.e (.v 7) (.nil))) .nil))) (.prim pNe (.cons (.call 21 (.e (.c (.int 1)) (.e (.call 20 (.e (.v 7) (.nil))) (.nil)))) (.cons (.v 7) .nil)))) (.ret (.val (.c (.bl false)))) (.nop))))))))
def fr_law_1 : IS := .for (.n 3) (.mk pRange1 (.cons (.c (.int 8)) .nil)) (lb_law_1)
def lb_law_2 : IS := .put (.n 9) (.call 18 (.e (.prim pAdd (.cons (.prim pMul (.cons (.prim pIx (.cons (.v 9) (.cons (.c (.int 0)) .nil))) (.cons (.prim pIx (.cons (.v 7) (.cons (.c (.int 1)) .nil))) .nil))) (.cons (.prim pMul (.cons (.prim pIx (.cons (.v 7) (.cons (.c (.int 0)) .nil))) (.cons (.prim pIx (.cons (.v 9) (.cons (.c (.int 1)) .nil))) .nil))) .nil))) (.e (.prim pMul (.cons (.prim pIx (.cons (.v 9) (.cons (.c (.int 1)) .nil))) (.cons (.prim pIx (.cons (.v 7) (.cons (.c (.int 1)) .nil))) .nil))) (.nil))))
def fr_law_2 : IS := .for (.n 7) (.mk pItems (.cons (.v 2) .nil)) (lb_law_2)
def lb_law_3 : IS := .ife (.prim pNe (.cons (.call 5 (.e (.v 11) (.nil))) (.cons (.and (.prim pEq (.cons (.v 11) (.cons (.prim pTup (.cons (.c (.int 0)) (.cons (.c (.int 1)) (.nil)))) .nil))) (.prim (pIsi "tuple") (.cons (.v 11) .nil))) .nil))) (.ret (.val (.c (.bl false)))) (.nop)
def fr_law_3 : IS := .for (.n 11) (.mk pItems (.cons (.prim pLst (.cons (.c .non) (.cons (.c (.str "1")) (.cons (.prim pTup (.cons (.c (.int 1)) (.nil))) (.cons (.prim pTup (.cons (.c (.int 1)) (.cons (.c (.int 2)) (.cons (.c (.int 3)) (.nil))))) (.cons (.prim pLst (.cons (.c (.int 1)) (.cons (.c (.int 2)) (.nil)))) (.cons (.prim pTup (.cons (.c (.bl true)) (.cons (.c (.int 2)) (.nil)))) (.cons (.prim pTup (.cons (.c (.int 2)) (.cons (.c (.bl true)) (.nil)))) (.cons (.prim pTup (.cons (.c (.int 1)) (.cons (.c (.int 0)) (.nil)))) (.cons (.prim pTup (.cons (.c (.int 2)) (.cons (.c (.int 4)) (.nil)))) (.cons (.prim pTup (.cons (.c (.int 1)) (.cons (.prim pSub (.cons (.c (.int 0)) (.cons (.c (.int 2)) .nil))) (.nil)))) (.cons (.prim pTup (.cons (.c (.int 0)) (.cons (.c (.int 2)) (.nil)))) (.cons (.prim pTup (.cons (.c (.int 0)) (.cons (.c (.int 1)) (.nil)))) (.nil)))))))))))))) .nil)) (lb_law_3)
def lb_law_4 : IS := .seq (.ife (.prim pNe (.cons (.call 21 (.e (.c (.int 0)) (.e (.v 13) (.nil)))) (.cons (.ite (.call 24 (.e (.v 13) (.nil))) (.prim pInt (.cons (.v 13) (.nil))) (.c (.str "<0>"))) .nil))) (.ret (.val (.c (.bl false)))) (.nop)) (.seq (.put (.n 14) (.call 25 (.e (.v 13) (.nil)))) (.ife (.prim pNe (.cons (.call 21 (.e (.c (.int 1)) (.e (.v 13) (.nil)))) (.cons (.ite (.not (.v 14)) (.c (.str "<0>")) (.prim pTup (.cons (.prim pInt (.cons (.prim pIx (.cons (.prim pSplit (.cons (.prim pS (.cons (.v 13) .nil)) (.cons (.c (.str "/")) .nil))) (.cons (.c (.int 0)) .nil))) (.nil))) (.cons (.ite (.prim pIn (.cons (.c (.str "/")) (.cons (.v 13) .nil))) (.prim pInt (.cons (.prim pIx (.cons (.prim pSplit (.cons (.prim pS (.cons (.v 13) .nil)) (.cons (.c (.str "/")) .nil))) (.cons (.c (.int 1)) .nil))) (.nil))) (.c (.int 1))) (.nil))))) .nil))) (.ret (.val (.c (.bl false)))) (.nop)))
def fr_law_4 : IS := .for (.n 13) (.mk pItems (.cons (.prim pAdd (.cons (.v 12) (.cons (.prim pLst (.cons (.prim pAdd (.cons (.call 20 (.e (.prim pIx (.cons (.v 2) (.cons (.c (.int 0)) .nil))) (.nil))) (.cons (.prim pIx (.cons (.prim pLst (.cons (.c (.str "")) (.cons (.c (.str "0")) (.cons (.c (.str "/")) (.cons (.c (.str "-")) (.nil)))))) (.cons (.call 17 (.s 1 (.e (.c (.int 4)) (.nil)))) .nil))) .nil))) (.nil))) .nil))) .nil)) (lb_law_4)
def ir_law : IS := .seq (.setm 1 (.call 16 (.e (.v 0) (.nil)))) (.seq (.put (.n 2) (.prim pLst (.nil))) (.seq (fr_law_0) (.seq (.put (.n 2) (.prim pAdd (.cons (.v 2) (.cons (.prim pLst (.cons (.prim pTup (.cons (.c (.int 0)) (.cons (.c (.int 1)) (.nil)))) (.cons (.prim pTup (.cons (.c (.int 1)) (.cons (.c (.int 1)) (.nil)))) (.cons (.prim pTup (.cons (.prim pSub (.cons (.c (.int 0)) (.cons (.c (.int 1)) .nil))) (.cons (.c (.int 3)) (.nil)))) (.nil))))) .nil)))) (.seq (fr_law_1) (.seq (.put (.n 9) (.prim pTup (.cons (.c (.int 0)) (.cons (.c (.int 1)) (.nil))))) (.seq (fr_law_2) (.seq (.ife (.or (.prim pNe (.cons (.call 11 (.e (.v 2) (.nil))) (.cons (.v 9) .nil))) (.or (.prim pNe (.cons (.call 11 (.e (.prim pTuple (.cons (.v 2) (.nil))) (.nil))) (.cons (.v 9) .nil))) (.prim pNe (.cons (.call 11 (.e (.prim pLst (.nil)) (.nil))) (.cons (.prim pTup (.cons (.c (.int 0)) (.cons (.c (.int 1)) (.nil)))) .nil))))) (.ret (.val (.c (.bl false)))) (.nop)) (.seq (fr_law_3) (.seq (.ife (.prim pNe (.cons (.comp [11] (.n 11) (.mk pItems (.cons (.prim pLst (.cons (.c (.int 0)) (.cons (.prim pNeg (.cons (.c (.int 7)) .nil)) (.cons (.c (.bl true)) (.cons (.c (.bl false)) (.cons (.c .non) (.cons (.c (.str "0")) (.cons (.prim pTup (.cons (.c (.int 1)) (.nil))) (.nil))))))))) .nil)) (.c (.bl true)) (.call 0 (.e (.v 11) (.nil)))) (.cons (.prim pLst (.cons (.c (.bl true)) (.cons (.c (.bl true)) (.cons (.c (.bl false)) (.cons (.c (.bl false)) (.cons (.c (.bl false)) (.cons (.c (.bl false)) (.cons (.c (.bl false)) (.nil))))))))) .nil))) (.ret (.val (.c (.bl false)))) (.nop)) (.seq (.put (.n 12) (.prim pLst (.cons (.c (.str "")) (.cons (.c (.str "-")) (.cons (.c (.str "0")) (.cons (.c (.str "-0")) (.cons (.c (.str "00")) (.cons (.c (.str "07")) (.cons (.c (.str "7")) (.cons (.c (.str "-7")) (.cons (.c (.str "+7")) (.cons (.c (.str " 7")) (.cons (.c (.str "7 ")) (.cons (.c (.str "1/2")) (.cons (.c (.str "2/4")) (.cons (.c (.str "1/1")) (.cons (.c (.str "-1/2")) (.cons (.c (.str "1/-2")) (.cons (.c (.str "1/0")) (.cons (.c (.str "0/2")) (.cons (.c (.str "1/02")) (.cons (.c (.str "1//2")) (.cons (.c (.str "/2")) (.cons (.c (.str "1/")) (.cons (.c (.str "a")) (.cons (.c .non) (.cons (.c (.int 5)) (.cons (.c (.str "-3/07")) (.nil))))))))))))))))))))))))))))) (.seq (fr_law_4) (.ret (.val (.prim pEq (.cons (.prim pLst (.cons (.call 22 (.e (.c (.int 0)) (.e (.c (.int 1)) (.e (.c (.int 0)) (.nil))))) (.cons (.call 22 (.e (.c (.int 0)) (.e (.c (.bl true)) (.e (.c (.int 1)) (.nil))))) (.cons (.call 22 (.e (.c (.int 0)) (.e (.c (.int 1)) (.e (.c .non) (.nil))))) (.cons (.call 22 (.e (.c (.int 0)) (.e (.c (.str "1")) (.e (.c (.int 2)) (.nil))))) (.cons (.call 22 (.e (.c (.int 1)) (.e (.prim pTup (.cons (.c (.int 1)) (.cons (.c (.int 2)) (.nil)))) (.e (.prim pTup (.cons (.c (.int 0)) (.cons (.c (.int 1)) (.nil)))) (.nil))))) (.nil))))))) (.cons (.prim (pRepK 5) (.cons (.c (.str "<malformed>")) (.nil))) .nil))))))))))))))))
noncomputable def DF : Defs where
  np := fun k => match k with | 0 => 1 | 1 => 1 | 2 => 2 | 3 => 2 | 4 => 2 | 5 => 1 | 6 => 2 | 7 => 2 | 8 => 2 | 9 => 2 | 10 => 2 | 11 => 1 | 12 => 2 | 13 => 2 | 14 => 1 | 15 => 1 | 16 => 1 | 17 => 2 | 18 => 2 | 19 => 1 | 20 => 1 | 21 => 2 | 22 => 3 | 23 => 1 | 24 => 1 | 25 => 1 | 26 => 1 | _ => 0
  n := fun k => match k with | 0 => 1 | 1 => 3 | 2 => 2 | 3 => 3 | 4 => 2 | 5 => 1 | 6 => 2 | 7 => 2 | 8 => 2 | 9 => 2 | 10 => 2 | 11 => 3 | 12 => 2 | 13 => 2 | 14 => 1 | 15 => 5 | 16 => 3 | 17 => 3 | 18 => 4 | 19 => 2 | 20 => 1 | 21 => 3 | 22 => 3 | 23 => 2 | 24 => 1 | 25 => 2 | 26 => 15 | _ => 0
  ir := fun k => match k with | 0 => ir_is_whole | 1 => ir_read_whole | 2 => ir_common | 3 => ir_lowest | 4 => ir_ratio | 5 => ir_is_ratio | 6 => ir_plus | 7 => ir_minus | 8 => ir_times | 9 => ir_over | 10 => ir_below | 11 => ir_total | 12 => ir_lesser | 13 => ir_greater | 14 => ir_ratio_text | 15 => ir_read_ratio | 16 => ir__law_draw | 17 => ir__law_take | 18 => ir__law_low | 19 => ir__law_number | 20 => ir__law_text | 21 => ir__law_read | 22 => ir__law_ask | 23 => ir__law_digits | 24 => ir__law_good_whole | 25 => ir__law_good_ratio | 26 => ir_law | _ => .nop
  sub := fun j k => decide (min j 1 = min k 1)
  fuel := FUEL
  nf := 27

end Lw

set_option Elab.async false
set_option linter.all false
set_option maxRecDepth 100000
namespace Lw
open PySem PySem.Spec PyProof.Rows L2 Eng
/-! ### the code -/
def top (i : Nat) : Stmt := PySem.Challenge.pw_oddsmith_k09_fractions.main.body.getD i (.Pass ⟨0, 0, 0, 0⟩)
abbrev s_is_whole : Stmt := top 8
abbrev s_read_whole : Stmt := top 9
abbrev s_common : Stmt := top 10
abbrev s_lowest : Stmt := top 11
abbrev s_ratio : Stmt := top 12
abbrev s_is_ratio : Stmt := top 13
abbrev s_plus : Stmt := top 14
abbrev s_minus : Stmt := top 15
abbrev s_times : Stmt := top 16
abbrev s_over : Stmt := top 17
abbrev s_below : Stmt := top 18
abbrev s_total : Stmt := top 19
abbrev s_lesser : Stmt := top 20
abbrev s_greater : Stmt := top 21
abbrev s_ratio_text : Stmt := top 22
abbrev s_read_ratio : Stmt := top 23
abbrev s__law_draw : Stmt := top 25
abbrev s__law_take : Stmt := top 26
abbrev s__law_low : Stmt := top 27
abbrev s__law_number : Stmt := top 28
abbrev s__law_text : Stmt := top 29
abbrev s__law_read : Stmt := top 30
abbrev s__law_ask : Stmt := top 31
abbrev s__law_digits : Stmt := top 32
abbrev s__law_good_whole : Stmt := top 33
abbrev s__law_good_ratio : Stmt := top 34
abbrev s_law : Stmt := top 35
def s_init_NoText : Stmt := match top 3 with | .ClassDef _ _ _ b _ _ _ _ _ _ _ => b.getD 0 (.Pass ⟨0, 0, 0, 0⟩) | s => s
def init_e_NoText : Expr := .BinOp (.Constant (.str "at ") 0 ⟨9, 25, 9, 30⟩) .Add (.Call (.Name "str" ⟨9, 33, 9, 36⟩) [.Name "at" ⟨9, 37, 9, 39⟩] [] ⟨9, 33, 9, 40⟩) ⟨9, 25, 9, 40⟩
structure Txt (P : Program) (w : World) (K : PySem.W.Frag) (mg : Str → Option Value) (fa ca : Nat → Addr) : Prop where
  m_abs : mg "abs" = none
  m_all : mg "all" = none
  m_bool : mg "bool" = none
  m_int : mg "int" = none
  m_isinstance : mg "isinstance" = none
  m_len : mg "len" = none
  m_range : mg "range" = none
  m_repr : mg "repr" = none
  m_str : mg "str" = none
  m_tuple : mg "tuple" = none
  c_MOST_DIGITS : Gc K mg fa "MOST_DIGITS" (.int 4000)
  c_DIGITS : Gc K mg fa "DIGITS" (.str "0123456789")
  c_ZERO : Gc K mg fa "ZERO" (.tup [(.int 0), (.int 1)])
  c_read_ratio : Gc K mg fa "read_ratio" (.fn 15)
  c_read_whole : Gc K mg fa "read_whole" (.fn 1)
  c_over : Gc K mg fa "over" (.fn 9)
  c_ratio : Gc K mg fa "ratio" (.fn 4)
  x_Malformed : Ex0 K mg ca "Malformed" 0
  sub_Malformed : ∀ j, PySem.W.exmOne K (.ref (ca j)) (.ref (ca 0)) = some (DF.sub j 0)
  x_NoText : ExI P w K mg fa ca "NoText" 1 "at" chk_NoText
  sub_NoText : ∀ j, PySem.W.exmOne K (.ref (ca j)) (.ref (ca 1)) = some (DF.sub j 1)
  sk_NoText : ∀ j, DF.sub j 1 = true → ca j = ca 1 ∧ an j = "at"
structure Fs (P : Program) (w : World) (K : PySem.W.Frag) (mg : Str → Option Value) (base : Heap) (fa ca : Nat → Addr) (d : Nat) : Prop where
  f0 : FnAt P w K mg base (ctD DF K fa ca an d) d "is_whole" 0
  f1 : FnAt P w K mg base (ctD DF K fa ca an d) d "read_whole" 1
  f2 : FnAt P w K mg base (ctD DF K fa ca an d) d "common" 2
  f3 : FnAt P w K mg base (ctD DF K fa ca an d) d "lowest" 3
  f4 : FnAt P w K mg base (ctD DF K fa ca an d) d "ratio" 4
  f5 : FnAt P w K mg base (ctD DF K fa ca an d) d "is_ratio" 5
  f6 : FnAt P w K mg base (ctD DF K fa ca an d) d "plus" 6
  f7 : FnAt P w K mg base (ctD DF K fa ca an d) d "minus" 7
  f8 : FnAt P w K mg base (ctD DF K fa ca an d) d "times" 8
  f9 : FnAt P w K mg base (ctD DF K fa ca an d) d "over" 9
  f10 : FnAt P w K mg base (ctD DF K fa ca an d) d "below" 10
  f11 : FnAt P w K mg base (ctD DF K fa ca an d) d "total" 11
  f12 : FnAt P w K mg base (ctD DF K fa ca an d) d "lesser" 12
  f13 : FnAt P w K mg base (ctD DF K fa ca an d) d "greater" 13
  f14 : FnAt P w K mg base (ctD DF K fa ca an d) d "ratio_text" 14
  f15 : FnAt P w K mg base (ctD DF K fa ca an d) d "read_ratio" 15
  f16 : FnAt P w K mg base (ctD DF K fa ca an d) d "_law_draw" 16
  f17 : FnAt P w K mg base (ctD DF K fa ca an d) d "_law_take" 17
  f18 : FnAt P w K mg base (ctD DF K fa ca an d) d "_law_low" 18
  f19 : FnAt P w K mg base (ctD DF K fa ca an d) d "_law_number" 19
  f20 : FnAt P w K mg base (ctD DF K fa ca an d) d "_law_text" 20
  f21 : FnAt P w K mg base (ctD DF K fa ca an d) d "_law_read" 21
  f22 : FnAt P w K mg base (ctD DF K fa ca an d) d "_law_ask" 22
  f23 : FnAt P w K mg base (ctD DF K fa ca an d) d "_law_digits" 23
  f24 : FnAt P w K mg base (ctD DF K fa ca an d) d "_law_good_whole" 24
  f25 : FnAt P w K mg base (ctD DF K fa ca an d) d "_law_good_ratio" 25
  f26 : FnAt P w K mg base (ctD DF K fa ca an d) d "law" 26
section
variable {P : Program} {w : World} {K : PySem.W.Frag} {mg : Str → Option Value} {base : Heap} {fa ca : Nat → Addr} {d : Nat}
theorem all_of (A : Fs P w K mg base fa ca d) : AllAt P w K mg base (ctD DF K fa ca an d) d := fun k hk => by
  have hk : k < 27 := hk
  match k, hk with
  | 0, _ => exact ⟨_, A.f0⟩
  | 1, _ => exact ⟨_, A.f1⟩
  | 2, _ => exact ⟨_, A.f2⟩
  | 3, _ => exact ⟨_, A.f3⟩
  | 4, _ => exact ⟨_, A.f4⟩
  | 5, _ => exact ⟨_, A.f5⟩
  | 6, _ => exact ⟨_, A.f6⟩
  | 7, _ => exact ⟨_, A.f7⟩
  | 8, _ => exact ⟨_, A.f8⟩
  | 9, _ => exact ⟨_, A.f9⟩
  | 10, _ => exact ⟨_, A.f10⟩
  | 11, _ => exact ⟨_, A.f11⟩
  | 12, _ => exact ⟨_, A.f12⟩
  | 13, _ => exact ⟨_, A.f13⟩
  | 14, _ => exact ⟨_, A.f14⟩
  | 15, _ => exact ⟨_, A.f15⟩
  | 16, _ => exact ⟨_, A.f16⟩
  | 17, _ => exact ⟨_, A.f17⟩
  | 18, _ => exact ⟨_, A.f18⟩
  | 19, _ => exact ⟨_, A.f19⟩
  | 20, _ => exact ⟨_, A.f20⟩
  | 21, _ => exact ⟨_, A.f21⟩
  | 22, _ => exact ⟨_, A.f22⟩
  | 23, _ => exact ⟨_, A.f23⟩
  | 24, _ => exact ⟨_, A.f24⟩
  | 25, _ => exact ⟨_, A.f25⟩
  | 26, _ => exact ⟨_, A.f26⟩
  | k + 27, hk => exact absurd hk (by omega)
theorem sc_is_whole : FnScope ["value"] ["value"] (defScope s_is_whole) := ⟨rfl, rfl, rfl, by decide +kernel, rfl, by decide +kernel, by decide +kernel⟩
theorem ok_is_whole (T : Txt P w K mg fa ca) (A : Fs P w K mg base fa ca d) {fd : FuncData} (FF : Fun K "is_whole" "is_whole" s_is_whole (fa 0) fd) : FnG P w K mg base (d + 1) (fa 0) fd ["value"] (spC (ctD DF K fa ca an (d + 1)) 0) :=
  fn_ok (C := ctD DF K fa ca an d) (T' := tabD DF (d + 1)) (ir := ir_is_whole) FF sc_is_whole (np := 1) rfl (by decide) rfl fun cdv A0 outer s H E hgd hr => by
    have sc := sc_is_whole
    have kk : (ctD DF K fa ca an d).K.k = K := rfl
    have hu := hu64 hr
    have hu1 := hu65 hr
    have hu2 := hu104 hr
    have hp : PassesOwn (model P w) _ _ (cxOf (L2.CX P w) P w K mg base ["value"] "is_whole" (defScope s_is_whole) (fa 0) cdv A0 outer s H E).xe := PassesOwn.leaving
    have tk : Takes (cxOf (L2.CX P w) P w K mg base ["value"] "is_whole" (defScope s_is_whole) (fa 0) cdv A0 outer s H E) (fun cls d _ H => E cls d H) := takes_of rfl rfl rfl rfl
    exact (ss_one (ss_ret (sr_val (se_and (se_isi kk "int" (by rfl) T.m_isinstance (by rfl) T.m_int (se_v 0)) (se_and1 (se_not (se_isi kk "bool" (by rfl) T.m_isinstance (by rfl) T.m_bool (se_v 0))))))))
theorem sc_read_whole : FnScope ["text", "body", "sign"] ["text"] (defScope s_read_whole) := ⟨rfl, rfl, rfl, by decide +kernel, rfl, by decide +kernel, by decide +kernel⟩
theorem ok_read_whole (T : Txt P w K mg fa ca) (A : Fs P w K mg base fa ca d) {fd : FuncData} (FF : Fun K "read_whole" "read_whole" s_read_whole (fa 1) fd) : FnG P w K mg base (d + 1) (fa 1) fd ["text"] (spC (ctD DF K fa ca an (d + 1)) 1) :=
  fn_ok (C := ctD DF K fa ca an d) (T' := tabD DF (d + 1)) (ir := ir_read_whole) FF sc_read_whole (np := 1) rfl (by decide) rfl fun cdv A0 outer s H E hgd hr => by
    have sc := sc_read_whole
    have kk : (ctD DF K fa ca an d).K.k = K := rfl
    have hu := hu64 hr
    have hu1 := hu65 hr
    have hu2 := hu104 hr
    have hp : PassesOwn (model P w) _ _ (cxOf (L2.CX P w) P w K mg base ["text", "body", "sign"] "read_whole" (defScope s_read_whole) (fa 1) cdv A0 outer s H E).xe := PassesOwn.leaving
    have tk : Takes (cxOf (L2.CX P w) P w K mg base ["text", "body", "sign"] "read_whole" (defScope s_read_whole) (fa 1) cdv A0 outer s H E) (fun cls d _ H => E cls d H) := takes_of rfl rfl rfl rfl
    exact (ss_cons (ss_if (sb_not (sb_of (se_isi kk "str" (by rfl) T.m_isinstance (by rfl) T.m_str (se_v 0)))) (ss_one (ss_raise rfl tk (mkI rfl T.x_NoText rfl hr (by rfl) (ses_cons se_int ses_nil)))) ss_nil) (ss_cons (ss_set 1 sc.nd (se_ite (sb_cmp (o_eq kk hu) (se_sl01 kk (se_v 0) se_int) se_str) (se_sl10 kk (se_v 0) se_int) (se_v 0))) (ss_cons (ss_if (sb_pw (sb_or (sb_cmp o_lt (se_callB (c_len kk) (by rfl) T.m_len (ses_cons (se_v 1) ses_nil)) se_int) (sb_or (sb_cmp o_gt (se_callB (c_len kk) (by rfl) T.m_len (ses_cons (se_v 1) ses_nil)) (se_gc rfl (by rfl) T.c_MOST_DIGITS)) (sb_or1 (sb_not (sb_of (se_callB (c_all kk rfl) (by rfl) T.m_all (ses_cons (se_comp (own := [("sign", 2)]) rfl sc.nd (si_seq kk (se_v 1)) ⟨rfl, by first | decide +kernel | exact of_decide_eq_true (by kernel_rfl), by first | decide +kernel | exact of_decide_eq_true (by kernel_rfl), by first | decide +kernel | exact of_decide_eq_true (by kernel_rfl), by first | decide +kernel | exact of_decide_eq_true (by kernel_rfl)⟩ (fun _ _ _ _ _ => (sg_n 2 sc.nd)) (fun _ _ _ _ _ => tkT (fun tk => sts_nil)) (fun _ _ _ _ _ => tkE (fun tk => (se_cmp (o_in kk hu1) (se_v 2) (se_gc rfl (by rfl) T.c_DIGITS))))) ses_nil)))))))) (ss_one (ss_raise rfl tk (mkI rfl T.x_NoText rfl hr (by rfl) (ses_cons se_int ses_nil)))) ss_nil) (ss_cons (ss_if (sb_pw (sb_and (sb_cmp (o_eq kk hu) (se_ix kk (se_v 1) se_int) se_str) (sb_and1 (sb_cmp (o_ne kk hu) (se_v 0) se_str)))) (ss_one (ss_raise rfl tk (mkI rfl T.x_NoText rfl hr (by rfl) (ses_cons se_int ses_nil)))) ss_nil) (ss_one (ss_ret (sr_val (se_callTy c_int (by rfl) T.m_int (ses_cons (se_v 0) ses_nil)))))))))
theorem sc_common : FnScope ["a", "b"] ["a", "b"] (defScope s_common) := ⟨rfl, rfl, rfl, by decide +kernel, rfl, by decide +kernel, by decide +kernel⟩
theorem ok_common (T : Txt P w K mg fa ca) (A : Fs P w K mg base fa ca d) {fd : FuncData} (FF : Fun K "common" "common" s_common (fa 2) fd) : FnG P w K mg base (d + 1) (fa 2) fd ["a", "b"] (spC (ctD DF K fa ca an (d + 1)) 2) :=
  fn_ok (C := ctD DF K fa ca an d) (T' := tabD DF (d + 1)) (ir := ir_common) FF sc_common (np := 2) rfl (by decide) rfl fun cdv A0 outer s H E hgd hr => by
    have sc := sc_common
    have kk : (ctD DF K fa ca an d).K.k = K := rfl
    have hu := hu64 hr
    have hu1 := hu65 hr
    have hu2 := hu104 hr
    have hp : PassesOwn (model P w) _ _ (cxOf (L2.CX P w) P w K mg base ["a", "b"] "common" (defScope s_common) (fa 2) cdv A0 outer s H E).xe := PassesOwn.leaving
    have tk : Takes (cxOf (L2.CX P w) P w K mg base ["a", "b"] "common" (defScope s_common) (fa 2) cdv A0 outer s H E) (fun cls d _ H => E cls d H) := takes_of rfl rfl rfl rfl
    exact (ss_cons (ss_par 0 1 rfl sc.nd (sr_val (se_callB c_abs (by rfl) T.m_abs (ses_cons (se_v 0) ses_nil))) (sr_val (se_callB c_abs (by rfl) T.m_abs (ses_cons (se_v 1) ses_nil)))) (ss_cons (ss_while hp (sb_cmp (o_ne kk hu) (se_v 1) se_int) (ss_one (ss_par 0 1 rfl sc.nd (sr_val (se_v 1)) (sr_val (se_bin o_mod (se_v 0) (se_v 1)))))) (ss_one (ss_ret (sr_val (se_v 0))))))
theorem sc_lowest : FnScope ["n", "d", "g"] ["n", "d"] (defScope s_lowest) := ⟨rfl, rfl, rfl, by decide +kernel, rfl, by decide +kernel, by decide +kernel⟩
theorem ok_lowest (T : Txt P w K mg fa ca) (A : Fs P w K mg base fa ca d) {fd : FuncData} (FF : Fun K "lowest" "lowest" s_lowest (fa 3) fd) : FnG P w K mg base (d + 1) (fa 3) fd ["n", "d"] (spC (ctD DF K fa ca an (d + 1)) 3) :=
  fn_ok (C := ctD DF K fa ca an d) (T' := tabD DF (d + 1)) (ir := ir_lowest) FF sc_lowest (np := 2) rfl (by decide) rfl fun cdv A0 outer s H E hgd hr => by
    have sc := sc_lowest
    have kk : (ctD DF K fa ca an d).K.k = K := rfl
    have hu := hu64 hr
    have hu1 := hu65 hr
    have hu2 := hu104 hr
    have hp : PassesOwn (model P w) _ _ (cxOf (L2.CX P w) P w K mg base ["n", "d", "g"] "lowest" (defScope s_lowest) (fa 3) cdv A0 outer s H E).xe := PassesOwn.leaving
    have tk : Takes (cxOf (L2.CX P w) P w K mg base ["n", "d", "g"] "lowest" (defScope s_lowest) (fa 3) cdv A0 outer s H E) (fun cls d _ H => E cls d H) := takes_of rfl rfl rfl rfl
    exact (ss_cons (ss_set 2 sc.nd (se_call (A.f2) hgd hr tk (by rfl) (sas_e (se_v 0) (sas_e (se_v 1) sas_nil)))) (ss_cons (ss_if (sb_cmp o_lt (se_v 1) se_int) (ss_one (ss_set 2 sc.nd (se_un o_neg (se_v 2)))) ss_nil) (ss_one (ss_ret (sr_val (se_tup (ses_cons (se_bin o_div (se_v 0) (se_v 2)) (ses_cons (se_bin o_div (se_v 1) (se_v 2)) ses_nil))))))))
theorem sc_ratio : FnScope ["n", "d"] ["n", "d"] (defScope s_ratio) := ⟨rfl, rfl, rfl, by decide +kernel, rfl, by decide +kernel, by decide +kernel⟩
theorem ok_ratio (T : Txt P w K mg fa ca) (A : Fs P w K mg base fa ca d) {fd : FuncData} (FF : Fun K "ratio" "ratio" s_ratio (fa 4) fd) : FnG P w K mg base (d + 1) (fa 4) fd ["n", "d"] (spC (ctD DF K fa ca an (d + 1)) 4) :=
  fn_ok (C := ctD DF K fa ca an d) (T' := tabD DF (d + 1)) (ir := ir_ratio) FF sc_ratio (np := 2) rfl (by decide) rfl fun cdv A0 outer s H E hgd hr => by
    have sc := sc_ratio
    have kk : (ctD DF K fa ca an d).K.k = K := rfl
    have hu := hu64 hr
    have hu1 := hu65 hr
    have hu2 := hu104 hr
    have hp : PassesOwn (model P w) _ _ (cxOf (L2.CX P w) P w K mg base ["n", "d"] "ratio" (defScope s_ratio) (fa 4) cdv A0 outer s H E).xe := PassesOwn.leaving
    have tk : Takes (cxOf (L2.CX P w) P w K mg base ["n", "d"] "ratio" (defScope s_ratio) (fa 4) cdv A0 outer s H E) (fun cls d _ H => E cls d H) := takes_of rfl rfl rfl rfl
    exact (ss_cons (ss_if (sb_pw (sb_or (sb_not (sb_of (se_call (A.f0) hgd hr tk (by rfl) (sas_e (se_v 0) sas_nil)))) (sb_or (sb_not (sb_of (se_call (A.f0) hgd hr tk (by rfl) (sas_e (se_v 1) sas_nil)))) (sb_or1 (sb_cmp (o_eq kk hu) (se_v 1) se_int))))) (ss_one (ss_raise rfl tk (mk_own PySem.F.excBase_ValueError T.x_Malformed.cls T.x_Malformed.mg T.x_Malformed.keep (raises_own T.x_Malformed.sub T.x_Malformed.typ) (by rfl)))) ss_nil) (ss_one (ss_ret (sr_val (se_call (A.f3) hgd hr tk (by rfl) (sas_e (se_v 0) (sas_e (se_v 1) sas_nil)))))))
theorem sc_is_ratio : FnScope ["value"] ["value"] (defScope s_is_ratio) := ⟨rfl, rfl, rfl, by decide +kernel, rfl, by decide +kernel, by decide +kernel⟩
theorem ok_is_ratio (T : Txt P w K mg fa ca) (A : Fs P w K mg base fa ca d) {fd : FuncData} (FF : Fun K "is_ratio" "is_ratio" s_is_ratio (fa 5) fd) : FnG P w K mg base (d + 1) (fa 5) fd ["value"] (spC (ctD DF K fa ca an (d + 1)) 5) :=
  fn_ok (C := ctD DF K fa ca an d) (T' := tabD DF (d + 1)) (ir := ir_is_ratio) FF sc_is_ratio (np := 1) rfl (by decide) rfl fun cdv A0 outer s H E hgd hr => by
    have sc := sc_is_ratio
    have kk : (ctD DF K fa ca an d).K.k = K := rfl
    have hu := hu64 hr
    have hu1 := hu65 hr
    have hu2 := hu104 hr
    have hp : PassesOwn (model P w) _ _ (cxOf (L2.CX P w) P w K mg base ["value"] "is_ratio" (defScope s_is_ratio) (fa 5) cdv A0 outer s H E).xe := PassesOwn.leaving
    have tk : Takes (cxOf (L2.CX P w) P w K mg base ["value"] "is_ratio" (defScope s_is_ratio) (fa 5) cdv A0 outer s H E) (fun cls d _ H => E cls d H) := takes_of rfl rfl rfl rfl
    exact (ss_cons (ss_if (sb_pw (sb_or (sb_not (sb_of (se_isi kk "tuple" (by rfl) T.m_isinstance (by rfl) T.m_tuple (se_v 0)))) (sb_or (sb_cmp (o_ne kk hu) (se_callB (c_len kk) (by rfl) T.m_len (ses_cons (se_v 0) ses_nil)) se_int) (sb_or (sb_not (sb_of (se_call (A.f0) hgd hr tk (by rfl) (sas_e (se_ix kk (se_v 0) se_int) sas_nil)))) (sb_or1 (sb_not (sb_of (se_call (A.f0) hgd hr tk (by rfl) (sas_e (se_ix kk (se_v 0) se_int) sas_nil))))))))) (ss_one (ss_ret (sr_val se_bl))) ss_nil) (ss_one (ss_ret (sr_val (se_and (se_cmp o_gt (se_ix kk (se_v 0) se_int) se_int) (se_and1 (se_cmp (o_eq kk hu) (se_call (A.f2) hgd hr tk (by rfl) (sas_e (se_ix kk (se_v 0) se_int) (sas_e (se_ix kk (se_v 0) se_int) sas_nil))) se_int)))))))
theorem sc_plus : FnScope ["a", "b"] ["a", "b"] (defScope s_plus) := ⟨rfl, rfl, rfl, by decide +kernel, rfl, by decide +kernel, by decide +kernel⟩
theorem ok_plus (T : Txt P w K mg fa ca) (A : Fs P w K mg base fa ca d) {fd : FuncData} (FF : Fun K "plus" "plus" s_plus (fa 6) fd) : FnG P w K mg base (d + 1) (fa 6) fd ["a", "b"] (spC (ctD DF K fa ca an (d + 1)) 6) :=
  fn_ok (C := ctD DF K fa ca an d) (T' := tabD DF (d + 1)) (ir := ir_plus) FF sc_plus (np := 2) rfl (by decide) rfl fun cdv A0 outer s H E hgd hr => by
    have sc := sc_plus
    have kk : (ctD DF K fa ca an d).K.k = K := rfl
    have hu := hu64 hr
    have hu1 := hu65 hr
    have hu2 := hu104 hr
    have hp : PassesOwn (model P w) _ _ (cxOf (L2.CX P w) P w K mg base ["a", "b"] "plus" (defScope s_plus) (fa 6) cdv A0 outer s H E).xe := PassesOwn.leaving
    have tk : Takes (cxOf (L2.CX P w) P w K mg base ["a", "b"] "plus" (defScope s_plus) (fa 6) cdv A0 outer s H E) (fun cls d _ H => E cls d H) := takes_of rfl rfl rfl rfl
    exact (ss_one (ss_ret (sr_val (se_call (A.f3) hgd hr tk (by rfl) (sas_e (se_bin (o_add kk) (se_bin o_mul (se_ix kk (se_v 0) se_int) (se_ix kk (se_v 1) se_int)) (se_bin o_mul (se_ix kk (se_v 1) se_int) (se_ix kk (se_v 0) se_int))) (sas_e (se_bin o_mul (se_ix kk (se_v 0) se_int) (se_ix kk (se_v 1) se_int)) sas_nil))))))
theorem sc_minus : FnScope ["a", "b"] ["a", "b"] (defScope s_minus) := ⟨rfl, rfl, rfl, by decide +kernel, rfl, by decide +kernel, by decide +kernel⟩
theorem ok_minus (T : Txt P w K mg fa ca) (A : Fs P w K mg base fa ca d) {fd : FuncData} (FF : Fun K "minus" "minus" s_minus (fa 7) fd) : FnG P w K mg base (d + 1) (fa 7) fd ["a", "b"] (spC (ctD DF K fa ca an (d + 1)) 7) :=
  fn_ok (C := ctD DF K fa ca an d) (T' := tabD DF (d + 1)) (ir := ir_minus) FF sc_minus (np := 2) rfl (by decide) rfl fun cdv A0 outer s H E hgd hr => by
    have sc := sc_minus
    have kk : (ctD DF K fa ca an d).K.k = K := rfl
    have hu := hu64 hr
    have hu1 := hu65 hr
    have hu2 := hu104 hr
    have hp : PassesOwn (model P w) _ _ (cxOf (L2.CX P w) P w K mg base ["a", "b"] "minus" (defScope s_minus) (fa 7) cdv A0 outer s H E).xe := PassesOwn.leaving
    have tk : Takes (cxOf (L2.CX P w) P w K mg base ["a", "b"] "minus" (defScope s_minus) (fa 7) cdv A0 outer s H E) (fun cls d _ H => E cls d H) := takes_of rfl rfl rfl rfl
    exact (ss_one (ss_ret (sr_val (se_call (A.f3) hgd hr tk (by rfl) (sas_e (se_bin o_sub (se_bin o_mul (se_ix kk (se_v 0) se_int) (se_ix kk (se_v 1) se_int)) (se_bin o_mul (se_ix kk (se_v 1) se_int) (se_ix kk (se_v 0) se_int))) (sas_e (se_bin o_mul (se_ix kk (se_v 0) se_int) (se_ix kk (se_v 1) se_int)) sas_nil))))))
theorem sc_times : FnScope ["a", "b"] ["a", "b"] (defScope s_times) := ⟨rfl, rfl, rfl, by decide +kernel, rfl, by decide +kernel, by decide +kernel⟩
theorem ok_times (T : Txt P w K mg fa ca) (A : Fs P w K mg base fa ca d) {fd : FuncData} (FF : Fun K "times" "times" s_times (fa 8) fd) : FnG P w K mg base (d + 1) (fa 8) fd ["a", "b"] (spC (ctD DF K fa ca an (d + 1)) 8) :=
  fn_ok (C := ctD DF K fa ca an d) (T' := tabD DF (d + 1)) (ir := ir_times) FF sc_times (np := 2) rfl (by decide) rfl fun cdv A0 outer s H E hgd hr => by
    have sc := sc_times
    have kk : (ctD DF K fa ca an d).K.k = K := rfl
    have hu := hu64 hr
    have hu1 := hu65 hr
    have hu2 := hu104 hr
    have hp : PassesOwn (model P w) _ _ (cxOf (L2.CX P w) P w K mg base ["a", "b"] "times" (defScope s_times) (fa 8) cdv A0 outer s H E).xe := PassesOwn.leaving
    have tk : Takes (cxOf (L2.CX P w) P w K mg base ["a", "b"] "times" (defScope s_times) (fa 8) cdv A0 outer s H E) (fun cls d _ H => E cls d H) := takes_of rfl rfl rfl rfl
    exact (ss_one (ss_ret (sr_val (se_call (A.f3) hgd hr tk (by rfl) (sas_e (se_bin o_mul (se_ix kk (se_v 0) se_int) (se_ix kk (se_v 1) se_int)) (sas_e (se_bin o_mul (se_ix kk (se_v 0) se_int) (se_ix kk (se_v 1) se_int)) sas_nil))))))
theorem sc_over : FnScope ["a", "b"] ["a", "b"] (defScope s_over) := ⟨rfl, rfl, rfl, by decide +kernel, rfl, by decide +kernel, by decide +kernel⟩
theorem ok_over (T : Txt P w K mg fa ca) (A : Fs P w K mg base fa ca d) {fd : FuncData} (FF : Fun K "over" "over" s_over (fa 9) fd) : FnG P w K mg base (d + 1) (fa 9) fd ["a", "b"] (spC (ctD DF K fa ca an (d + 1)) 9) :=
  fn_ok (C := ctD DF K fa ca an d) (T' := tabD DF (d + 1)) (ir := ir_over) FF sc_over (np := 2) rfl (by decide) rfl fun cdv A0 outer s H E hgd hr => by
    have sc := sc_over
    have kk : (ctD DF K fa ca an d).K.k = K := rfl
    have hu := hu64 hr
    have hu1 := hu65 hr
    have hu2 := hu104 hr
    have hp : PassesOwn (model P w) _ _ (cxOf (L2.CX P w) P w K mg base ["a", "b"] "over" (defScope s_over) (fa 9) cdv A0 outer s H E).xe := PassesOwn.leaving
    have tk : Takes (cxOf (L2.CX P w) P w K mg base ["a", "b"] "over" (defScope s_over) (fa 9) cdv A0 outer s H E) (fun cls d _ H => E cls d H) := takes_of rfl rfl rfl rfl
    exact (ss_cons (ss_if (sb_cmp (o_eq kk hu) (se_ix kk (se_v 1) se_int) se_int) (ss_one (ss_raise rfl tk (mk_own PySem.F.excBase_ValueError T.x_Malformed.cls T.x_Malformed.mg T.x_Malformed.keep (raises_own T.x_Malformed.sub T.x_Malformed.typ) (by rfl)))) ss_nil) (ss_one (ss_ret (sr_val (se_call (A.f3) hgd hr tk (by rfl) (sas_e (se_bin o_mul (se_ix kk (se_v 0) se_int) (se_ix kk (se_v 1) se_int)) (sas_e (se_bin o_mul (se_ix kk (se_v 0) se_int) (se_ix kk (se_v 1) se_int)) sas_nil)))))))
theorem sc_below : FnScope ["a", "b"] ["a", "b"] (defScope s_below) := ⟨rfl, rfl, rfl, by decide +kernel, rfl, by decide +kernel, by decide +kernel⟩
theorem ok_below (T : Txt P w K mg fa ca) (A : Fs P w K mg base fa ca d) {fd : FuncData} (FF : Fun K "below" "below" s_below (fa 10) fd) : FnG P w K mg base (d + 1) (fa 10) fd ["a", "b"] (spC (ctD DF K fa ca an (d + 1)) 10) :=
  fn_ok (C := ctD DF K fa ca an d) (T' := tabD DF (d + 1)) (ir := ir_below) FF sc_below (np := 2) rfl (by decide) rfl fun cdv A0 outer s H E hgd hr => by
    have sc := sc_below
    have kk : (ctD DF K fa ca an d).K.k = K := rfl
    have hu := hu64 hr
    have hu1 := hu65 hr
    have hu2 := hu104 hr
    have hp : PassesOwn (model P w) _ _ (cxOf (L2.CX P w) P w K mg base ["a", "b"] "below" (defScope s_below) (fa 10) cdv A0 outer s H E).xe := PassesOwn.leaving
    have tk : Takes (cxOf (L2.CX P w) P w K mg base ["a", "b"] "below" (defScope s_below) (fa 10) cdv A0 outer s H E) (fun cls d _ H => E cls d H) := takes_of rfl rfl rfl rfl
    exact (ss_one (ss_ret (sr_val (se_cmp o_lt (se_bin o_mul (se_ix kk (se_v 0) se_int) (se_ix kk (se_v 1) se_int)) (se_bin o_mul (se_ix kk (se_v 1) se_int) (se_ix kk (se_v 0) se_int))))))
theorem sc_total : FnScope ["items", "found", "item"] ["items"] (defScope s_total) := ⟨rfl, rfl, rfl, by decide +kernel, rfl, by decide +kernel, by decide +kernel⟩
theorem ok_total (T : Txt P w K mg fa ca) (A : Fs P w K mg base fa ca d) {fd : FuncData} (FF : Fun K "total" "total" s_total (fa 11) fd) : FnG P w K mg base (d + 1) (fa 11) fd ["items"] (spC (ctD DF K fa ca an (d + 1)) 11) :=
  fn_ok (C := ctD DF K fa ca an d) (T' := tabD DF (d + 1)) (ir := ir_total) FF sc_total (np := 1) rfl (by decide) rfl fun cdv A0 outer s H E hgd hr => by
    have sc := sc_total
    have kk : (ctD DF K fa ca an d).K.k = K := rfl
    have hu := hu64 hr
    have hu1 := hu65 hr
    have hu2 := hu104 hr
    have hp : PassesOwn (model P w) _ _ (cxOf (L2.CX P w) P w K mg base ["items", "found", "item"] "total" (defScope s_total) (fa 11) cdv A0 outer s H E).xe := PassesOwn.leaving
    have tk : Takes (cxOf (L2.CX P w) P w K mg base ["items", "found", "item"] "total" (defScope s_total) (fa 11) cdv A0 outer s H E) (fun cls d _ H => E cls d H) := takes_of rfl rfl rfl rfl
    exact (ss_cons (ss_set 1 sc.nd (se_gc rfl (by rfl) T.c_ZERO)) (ss_cons (ss_for hp rfl (si_seq kk (se_v 0)) (sg_n 2 sc.nd) (ss_one (ss_if (sb_cmp (o_ne kk hu) (se_ix kk (se_v 2) se_int) se_int) (ss_one (ss_set 1 sc.nd (se_call (A.f6) hgd hr tk (by rfl) (sas_e (se_v 1) (sas_e (se_v 2) sas_nil))))) ss_nil))) (ss_one (ss_ret (sr_val (se_v 1))))))
theorem sc_lesser : FnScope ["a", "b"] ["a", "b"] (defScope s_lesser) := ⟨rfl, rfl, rfl, by decide +kernel, rfl, by decide +kernel, by decide +kernel⟩
theorem ok_lesser (T : Txt P w K mg fa ca) (A : Fs P w K mg base fa ca d) {fd : FuncData} (FF : Fun K "lesser" "lesser" s_lesser (fa 12) fd) : FnG P w K mg base (d + 1) (fa 12) fd ["a", "b"] (spC (ctD DF K fa ca an (d + 1)) 12) :=
  fn_ok (C := ctD DF K fa ca an d) (T' := tabD DF (d + 1)) (ir := ir_lesser) FF sc_lesser (np := 2) rfl (by decide) rfl fun cdv A0 outer s H E hgd hr => by
    have sc := sc_lesser
    have kk : (ctD DF K fa ca an d).K.k = K := rfl
    have hu := hu64 hr
    have hu1 := hu65 hr
    have hu2 := hu104 hr
    have hp : PassesOwn (model P w) _ _ (cxOf (L2.CX P w) P w K mg base ["a", "b"] "lesser" (defScope s_lesser) (fa 12) cdv A0 outer s H E).xe := PassesOwn.leaving
    have tk : Takes (cxOf (L2.CX P w) P w K mg base ["a", "b"] "lesser" (defScope s_lesser) (fa 12) cdv A0 outer s H E) (fun cls d _ H => E cls d H) := takes_of rfl rfl rfl rfl
    exact (ss_one (ss_ret (sr_val (se_ite (sb_of (se_call (A.f10) hgd hr tk (by rfl) (sas_e (se_v 1) (sas_e (se_v 0) sas_nil)))) (se_v 1) (se_v 0)))))
theorem sc_greater : FnScope ["a", "b"] ["a", "b"] (defScope s_greater) := ⟨rfl, rfl, rfl, by decide +kernel, rfl, by decide +kernel, by decide +kernel⟩
theorem ok_greater (T : Txt P w K mg fa ca) (A : Fs P w K mg base fa ca d) {fd : FuncData} (FF : Fun K "greater" "greater" s_greater (fa 13) fd) : FnG P w K mg base (d + 1) (fa 13) fd ["a", "b"] (spC (ctD DF K fa ca an (d + 1)) 13) :=
  fn_ok (C := ctD DF K fa ca an d) (T' := tabD DF (d + 1)) (ir := ir_greater) FF sc_greater (np := 2) rfl (by decide) rfl fun cdv A0 outer s H E hgd hr => by
    have sc := sc_greater
    have kk : (ctD DF K fa ca an d).K.k = K := rfl
    have hu := hu64 hr
    have hu1 := hu65 hr
    have hu2 := hu104 hr
    have hp : PassesOwn (model P w) _ _ (cxOf (L2.CX P w) P w K mg base ["a", "b"] "greater" (defScope s_greater) (fa 13) cdv A0 outer s H E).xe := PassesOwn.leaving
    have tk : Takes (cxOf (L2.CX P w) P w K mg base ["a", "b"] "greater" (defScope s_greater) (fa 13) cdv A0 outer s H E) (fun cls d _ H => E cls d H) := takes_of rfl rfl rfl rfl
    exact (ss_one (ss_ret (sr_val (se_ite (sb_of (se_call (A.f10) hgd hr tk (by rfl) (sas_e (se_v 0) (sas_e (se_v 1) sas_nil)))) (se_v 1) (se_v 0)))))
theorem sc_ratio_text : FnScope ["a"] ["a"] (defScope s_ratio_text) := ⟨rfl, rfl, rfl, by decide +kernel, rfl, by decide +kernel, by decide +kernel⟩
theorem ok_ratio_text (T : Txt P w K mg fa ca) (A : Fs P w K mg base fa ca d) {fd : FuncData} (FF : Fun K "ratio_text" "ratio_text" s_ratio_text (fa 14) fd) : FnG P w K mg base (d + 1) (fa 14) fd ["a"] (spC (ctD DF K fa ca an (d + 1)) 14) :=
  fn_ok (C := ctD DF K fa ca an d) (T' := tabD DF (d + 1)) (ir := ir_ratio_text) FF sc_ratio_text (np := 1) rfl (by decide) rfl fun cdv A0 outer s H E hgd hr => by
    have sc := sc_ratio_text
    have kk : (ctD DF K fa ca an d).K.k = K := rfl
    have hu := hu64 hr
    have hu1 := hu65 hr
    have hu2 := hu104 hr
    have hp : PassesOwn (model P w) _ _ (cxOf (L2.CX P w) P w K mg base ["a"] "ratio_text" (defScope s_ratio_text) (fa 14) cdv A0 outer s H E).xe := PassesOwn.leaving
    have tk : Takes (cxOf (L2.CX P w) P w K mg base ["a"] "ratio_text" (defScope s_ratio_text) (fa 14) cdv A0 outer s H E) (fun cls d _ H => E cls d H) := takes_of rfl rfl rfl rfl
    exact (ss_one (ss_ret (sr_val (se_ite (sb_cmp (o_eq kk hu) (se_ix kk (se_v 0) se_int) se_int) (se_callTy c_str (by rfl) T.m_str (ses_cons (se_ix kk (se_v 0) se_int) ses_nil)) (se_bin (o_add kk) (se_bin (o_add kk) (se_callTy c_str (by rfl) T.m_str (ses_cons (se_ix kk (se_v 0) se_int) ses_nil)) se_str) (se_callTy c_str (by rfl) T.m_str (ses_cons (se_ix kk (se_v 0) se_int) ses_nil)))))))
theorem sc_read_ratio : FnScope ["text", "top", "line", "bottom", "found"] ["text"] (defScope s_read_ratio) := ⟨rfl, rfl, rfl, by decide +kernel, rfl, by decide +kernel, by decide +kernel⟩
theorem ok_read_ratio (T : Txt P w K mg fa ca) (A : Fs P w K mg base fa ca d) {fd : FuncData} (FF : Fun K "read_ratio" "read_ratio" s_read_ratio (fa 15) fd) : FnG P w K mg base (d + 1) (fa 15) fd ["text"] (spC (ctD DF K fa ca an (d + 1)) 15) :=
  fn_ok (C := ctD DF K fa ca an d) (T' := tabD DF (d + 1)) (ir := ir_read_ratio) FF sc_read_ratio (np := 1) rfl (by decide) rfl fun cdv A0 outer s H E hgd hr => by
    have sc := sc_read_ratio
    have kk : (ctD DF K fa ca an d).K.k = K := rfl
    have hu := hu64 hr
    have hu1 := hu65 hr
    have hu2 := hu104 hr
    have hp : PassesOwn (model P w) _ _ (cxOf (L2.CX P w) P w K mg base ["text", "top", "line", "bottom", "found"] "read_ratio" (defScope s_read_ratio) (fa 15) cdv A0 outer s H E).xe := PassesOwn.leaving
    have tk : Takes (cxOf (L2.CX P w) P w K mg base ["text", "top", "line", "bottom", "found"] "read_ratio" (defScope s_read_ratio) (fa 15) cdv A0 outer s H E) (fun cls d _ H => E cls d H) := takes_of rfl rfl rfl rfl
    exact (ss_cons (ss_if (sb_not (sb_of (se_isi kk "str" (by rfl) T.m_isinstance (by rfl) T.m_str (se_v 0)))) (ss_one (ss_raise rfl tk (mkI rfl T.x_NoText rfl hr (by rfl) (ses_cons se_int ses_nil)))) ss_nil) (ss_cons (ss_put (se_partition (se_v 0) se_str) (sg_t kk rfl (sgs_cons (sg_n 1 sc.nd) (sgs_cons (sg_n 2 sc.nd) (sgs_cons (sg_n 3 sc.nd) sgs_nil))))) (ss_cons (ss_set 4 sc.nd (se_tup (ses_cons (se_call (A.f1) hgd hr tk (by rfl) (sas_e (se_v 1) sas_nil)) (ses_cons (se_ite (sb_cmp (o_ne kk hu) (se_v 2) se_str) (se_call (A.f1) hgd hr tk (by rfl) (sas_e (se_v 3) sas_nil)) se_int) ses_nil)))) (ss_cons (ss_if (sb_pw (sb_or (sb_not (sb_of (se_call (A.f5) hgd hr tk (by rfl) (sas_e (se_v 4) sas_nil)))) (sb_or1 (sb_pw (sb_and (sb_cmp (o_ne kk hu) (se_v 2) se_str) (sb_and1 (sb_cmp (o_eq kk hu) (se_ix kk (se_v 4) se_int) se_int))))))) (ss_one (ss_raise rfl tk (mkI rfl T.x_NoText rfl hr (by rfl) (ses_cons se_int ses_nil)))) ss_nil) (ss_one (ss_ret (sr_val (se_v 4))))))))
theorem sc__law_draw : FnScope ["script", "seed", "cell"] ["script"] (defScope s__law_draw) := ⟨rfl, rfl, rfl, by decide +kernel, rfl, by decide +kernel, by decide +kernel⟩
theorem ok__law_draw (T : Txt P w K mg fa ca) (A : Fs P w K mg base fa ca d) {fd : FuncData} (FF : Fun K "_law_draw" "_law_draw" s__law_draw (fa 16) fd) : FnG P w K mg base (d + 1) (fa 16) fd ["script"] (spC (ctD DF K fa ca an (d + 1)) 16) :=
  fn_ok (C := ctD DF K fa ca an d) (T' := tabD DF (d + 1)) (ir := ir__law_draw) FF sc__law_draw (np := 1) rfl (by decide) rfl fun cdv A0 outer s H E hgd hr => by
    have sc := sc__law_draw
    have kk : (ctD DF K fa ca an d).K.k = K := rfl
    have hu := hu64 hr
    have hu1 := hu65 hr
    have hu2 := hu104 hr
    have hp : PassesOwn (model P w) _ _ (cxOf (L2.CX P w) P w K mg base ["script", "seed", "cell"] "_law_draw" (defScope s__law_draw) (fa 16) cdv A0 outer s H E).xe := PassesOwn.leaving
    have tk : Takes (cxOf (L2.CX P w) P w K mg base ["script", "seed", "cell"] "_law_draw" (defScope s__law_draw) (fa 16) cdv A0 outer s H E) (fun cls d _ H => E cls d H) := takes_of rfl rfl rfl rfl
    exact (ss_cons (ss_set 1 sc.nd se_int) (ss_cons (ss_for hp rfl (si_seq kk (se_v 0)) (sg_n 2 sc.nd) (ss_one (ss_set 1 sc.nd (se_bin o_mod (se_callTy c_int (by rfl) T.m_int (ses_cons (se_bin (o_add kk) (se_bin (o_add kk) (se_bin o_mul (se_v 1) se_int) (se_bin o_mod (se_callB c_abs (by rfl) T.m_abs (ses_cons (se_callTy c_int (by rfl) T.m_int (ses_cons (se_v 2) ses_nil)) ses_nil)) se_int)) se_int) ses_nil)) se_int)))) (ss_one (ss_ret (sr_lst (ses_cons (se_comp (own := [("cell", 2)]) rfl sc.nd (si_seq kk (se_v 0)) ⟨rfl, by first | decide +kernel | exact of_decide_eq_true (by kernel_rfl), by first | decide +kernel | exact of_decide_eq_true (by kernel_rfl), by first | decide +kernel | exact of_decide_eq_true (by kernel_rfl), by first | decide +kernel | exact of_decide_eq_true (by kernel_rfl)⟩ (fun _ _ _ _ _ => (sg_n 2 sc.nd)) (fun _ _ _ _ _ => tkT (fun tk => sts_nil)) (fun _ _ _ _ _ => tkE (fun tk => (se_callB c_abs (by rfl) T.m_abs (ses_cons (se_callTy c_int (by rfl) T.m_int (ses_cons (se_v 2) ses_nil)) ses_nil))))) (ses_cons (se_un o_neg se_int) (ses_cons se_int (ses_cons (se_v 1) ses_nil)))))))))
theorem sc__law_take : FnScope ["draw", "many", "found"] ["draw", "many"] (defScope s__law_take) := ⟨rfl, rfl, rfl, by decide +kernel, rfl, by decide +kernel, by decide +kernel⟩
theorem ok__law_take (T : Txt P w K mg fa ca) (A : Fs P w K mg base fa ca d) {fd : FuncData} (FF : Fun K "_law_take" "_law_take" s__law_take (fa 17) fd) : FnG P w K mg base (d + 1) (fa 17) fd ["draw", "many"] (spC (ctD DF K fa ca an (d + 1)) 17) :=
  fn_ok (C := ctD DF K fa ca an d) (T' := tabD DF (d + 1)) (ir := ir__law_take) FF sc__law_take (np := 2) rfl (by decide) rfl fun cdv A0 outer s H E hgd hr => by
    have sc := sc__law_take
    have kk : (ctD DF K fa ca an d).K.k = K := rfl
    have hu := hu64 hr
    have hu1 := hu65 hr
    have hu2 := hu104 hr
    have hp : PassesOwn (model P w) _ _ (cxOf (L2.CX P w) P w K mg base ["draw", "many", "found"] "_law_take" (defScope s__law_take) (fa 17) cdv A0 outer s H E).xe := PassesOwn.leaving
    have tk : Takes (cxOf (L2.CX P w) P w K mg base ["draw", "many", "found"] "_law_take" (defScope s__law_take) (fa 17) cdv A0 outer s H E) (fun cls d _ H => E cls d H) := takes_of rfl rfl rfl rfl
    exact (ss_cons (ss_if (sb_cmp (o_eq kk hu) (se_sx 0 (ix_sx kk) se_int) se_int) (ss_cons (ss_setix 0 kk se_int (se_bin (o_add kk) (se_sx 0 (ix_sx kk) se_int) se_int)) (ss_cons (ss_if (sb_cmp o_lt (se_sx 0 (ix_sx kk) se_int) (se_callB (c_len kk) (by rfl) T.m_len (ses_cons (se_sx 0 (ix_sx kk) se_int) ses_nil))) (ss_one (ss_setix 0 kk se_int (se_ix kk (se_sx 0 (ix_sx kk) se_int) (se_sx 0 (ix_sx kk) se_int)))) ss_nil) (ss_one (ss_if (sb_cmp (o_eq kk hu) (se_sx 0 (ix_sx kk) se_int) se_int) (ss_cons (ss_setix 0 kk se_int (se_bin o_mod (se_callTy c_int (by rfl) T.m_int (ses_cons (se_bin (o_add kk) (se_bin o_mul (se_sx 0 (ix_sx kk) se_int) se_int) se_int) ses_nil)) se_int)) (ss_one (ss_setix 0 kk se_int (se_sx 0 (ix_sx kk) se_int)))) ss_nil)))) ss_nil) (ss_cons (ss_set 2 sc.nd (se_bin o_mod (se_callTy c_int (by rfl) T.m_int (ses_cons (se_sx 0 (ix_sx kk) se_int) ses_nil)) (se_v 1))) (ss_cons (ss_setix 0 kk se_int (se_bin o_div (se_sx 0 (ix_sx kk) se_int) (se_v 1))) (ss_one (ss_ret (sr_val (se_v 2)))))))
theorem sc__law_low : FnScope ["n", "d", "a", "b"] ["n", "d"] (defScope s__law_low) := ⟨rfl, rfl, rfl, by decide +kernel, rfl, by decide +kernel, by decide +kernel⟩
theorem ok__law_low (T : Txt P w K mg fa ca) (A : Fs P w K mg base fa ca d) {fd : FuncData} (FF : Fun K "_law_low" "_law_low" s__law_low (fa 18) fd) : FnG P w K mg base (d + 1) (fa 18) fd ["n", "d"] (spC (ctD DF K fa ca an (d + 1)) 18) :=
  fn_ok (C := ctD DF K fa ca an d) (T' := tabD DF (d + 1)) (ir := ir__law_low) FF sc__law_low (np := 2) rfl (by decide) rfl fun cdv A0 outer s H E hgd hr => by
    have sc := sc__law_low
    have kk : (ctD DF K fa ca an d).K.k = K := rfl
    have hu := hu64 hr
    have hu1 := hu65 hr
    have hu2 := hu104 hr
    have hp : PassesOwn (model P w) _ _ (cxOf (L2.CX P w) P w K mg base ["n", "d", "a", "b"] "_law_low" (defScope s__law_low) (fa 18) cdv A0 outer s H E).xe := PassesOwn.leaving
    have tk : Takes (cxOf (L2.CX P w) P w K mg base ["n", "d", "a", "b"] "_law_low" (defScope s__law_low) (fa 18) cdv A0 outer s H E) (fun cls d _ H => E cls d H) := takes_of rfl rfl rfl rfl
    exact (ss_cons (ss_par 2 3 rfl sc.nd (sr_val (se_callB c_abs (by rfl) T.m_abs (ses_cons (se_v 0) ses_nil))) (sr_val (se_callB c_abs (by rfl) T.m_abs (ses_cons (se_v 1) ses_nil)))) (ss_cons (ss_while hp (sb_cmp (o_ne kk hu) (se_v 3) se_int) (ss_one (ss_par 2 3 rfl sc.nd (sr_val (se_v 3)) (sr_val (se_bin o_mod (se_v 2) (se_v 3)))))) (ss_one (ss_ret (sr_val (se_ite (sb_cmp o_gt (se_v 1) se_int) (se_tup (ses_cons (se_bin o_div (se_v 0) (se_v 2)) (ses_cons (se_bin o_div (se_v 1) (se_v 2)) ses_nil))) (se_tup (ses_cons (se_bin o_div (se_bin o_sub se_int (se_v 0)) (se_v 2)) (ses_cons (se_bin o_div (se_bin o_sub se_int (se_v 1)) (se_v 2)) ses_nil)))))))))
theorem sc__law_number : FnScope ["draw", "size"] ["draw"] (defScope s__law_number) := ⟨rfl, rfl, rfl, by decide +kernel, rfl, by decide +kernel, by decide +kernel⟩
theorem ok__law_number (T : Txt P w K mg fa ca) (A : Fs P w K mg base fa ca d) {fd : FuncData} (FF : Fun K "_law_number" "_law_number" s__law_number (fa 19) fd) : FnG P w K mg base (d + 1) (fa 19) fd ["draw"] (spC (ctD DF K fa ca an (d + 1)) 19) :=
  fn_ok (C := ctD DF K fa ca an d) (T' := tabD DF (d + 1)) (ir := ir__law_number) FF sc__law_number (np := 1) rfl (by decide) rfl fun cdv A0 outer s H E hgd hr => by
    have sc := sc__law_number
    have kk : (ctD DF K fa ca an d).K.k = K := rfl
    have hu := hu64 hr
    have hu1 := hu65 hr
    have hu2 := hu104 hr
    have hp : PassesOwn (model P w) _ _ (cxOf (L2.CX P w) P w K mg base ["draw", "size"] "_law_number" (defScope s__law_number) (fa 19) cdv A0 outer s H E).xe := PassesOwn.leaving
    have tk : Takes (cxOf (L2.CX P w) P w K mg base ["draw", "size"] "_law_number" (defScope s__law_number) (fa 19) cdv A0 outer s H E) (fun cls d _ H => E cls d H) := takes_of rfl rfl rfl rfl
    exact (ss_cons (ss_set 1 sc.nd (se_ix kk (se_lst (ses_cons se_int (ses_cons se_int (ses_cons se_int (ses_cons (se_bin o_pow se_int se_int) (ses_cons (se_bin o_pow se_int se_int) ses_nil)))))) (se_call (A.f17) hgd hr tk (by rfl) (sas_s 0 (sas_e se_int sas_nil))))) (ss_one (ss_ret (sr_val (se_ite (sb_cmp o_gt (se_call (A.f17) hgd hr tk (by rfl) (sas_s 0 (sas_e se_int sas_nil))) se_int) (se_bin o_mul (se_bin (o_add kk) (se_call (A.f17) hgd hr tk (by rfl) (sas_s 0 (sas_e (se_v 1) sas_nil))) se_int) (se_ite (sb_cmp (o_eq kk hu) (se_call (A.f17) hgd hr tk (by rfl) (sas_s 0 (sas_e se_int sas_nil))) se_int) se_int (se_un o_neg se_int))) se_int)))))
theorem sc__law_text : FnScope ["value"] ["value"] (defScope s__law_text) := ⟨rfl, rfl, rfl, by decide +kernel, rfl, by decide +kernel, by decide +kernel⟩
theorem ok__law_text (T : Txt P w K mg fa ca) (A : Fs P w K mg base fa ca d) {fd : FuncData} (FF : Fun K "_law_text" "_law_text" s__law_text (fa 20) fd) : FnG P w K mg base (d + 1) (fa 20) fd ["value"] (spC (ctD DF K fa ca an (d + 1)) 20) :=
  fn_ok (C := ctD DF K fa ca an d) (T' := tabD DF (d + 1)) (ir := ir__law_text) FF sc__law_text (np := 1) rfl (by decide) rfl fun cdv A0 outer s H E hgd hr => by
    have sc := sc__law_text
    have kk : (ctD DF K fa ca an d).K.k = K := rfl
    have hu := hu64 hr
    have hu1 := hu65 hr
    have hu2 := hu104 hr
    have hp : PassesOwn (model P w) _ _ (cxOf (L2.CX P w) P w K mg base ["value"] "_law_text" (defScope s__law_text) (fa 20) cdv A0 outer s H E).xe := PassesOwn.leaving
    have tk : Takes (cxOf (L2.CX P w) P w K mg base ["value"] "_law_text" (defScope s__law_text) (fa 20) cdv A0 outer s H E) (fun cls d _ H => E cls d H) := takes_of rfl rfl rfl rfl
    exact (ss_one (ss_ret (sr_val (se_ite (sb_cmp (o_eq kk hu) (se_ix kk (se_v 0) se_int) se_int) (se_callTy c_str (by rfl) T.m_str (ses_cons (se_ix kk (se_v 0) se_int) ses_nil)) (se_bin (o_add kk) (se_bin (o_add kk) (se_callTy c_str (by rfl) T.m_str (ses_cons (se_ix kk (se_v 0) se_int) ses_nil)) se_str) (se_callTy c_str (by rfl) T.m_str (ses_cons (se_ix kk (se_v 0) se_int) ses_nil)))))))
theorem sc__law_read : FnScope ["which", "text", "fault"] ["which", "text"] (defScope s__law_read) := ⟨rfl, rfl, rfl, by decide +kernel, rfl, by decide +kernel, by decide +kernel⟩
theorem ok__law_read (T : Txt P w K mg fa ca) (A : Fs P w K mg base fa ca d) {fd : FuncData} (FF : Fun K "_law_read" "_law_read" s__law_read (fa 21) fd) : FnG P w K mg base (d + 1) (fa 21) fd ["which", "text"] (spC (ctD DF K fa ca an (d + 1)) 21) :=
  fn_ok (C := ctD DF K fa ca an d) (T' := tabD DF (d + 1)) (ir := ir__law_read) FF sc__law_read (np := 2) rfl (by decide) rfl fun cdv A0 outer s H E hgd hr => by
    have sc := sc__law_read
    have kk : (ctD DF K fa ca an d).K.k = K := rfl
    have hu := hu64 hr
    have hu1 := hu65 hr
    have hu2 := hu104 hr
    have hp : PassesOwn (model P w) _ _ (cxOf (L2.CX P w) P w K mg base ["which", "text", "fault"] "_law_read" (defScope s__law_read) (fa 21) cdv A0 outer s H E).xe := PassesOwn.leaving
    have tk : Takes (cxOf (L2.CX P w) P w K mg base ["which", "text", "fault"] "_law_read" (defScope s__law_read) (fa 21) cdv A0 outer s H E) (fun cls d _ H => E cls d H) := takes_of rfl rfl rfl rfl
    exact (ss_one (ss_try_sf kk rfl rfl sc.nd (by rfl) (by rfl) ⟨by rfl, by decide, .inl T.x_NoText.atx⟩ tk T.sub_NoText T.sk_NoText T.x_NoText.xf T.x_NoText.no (by rfl) T.m_str (fun _ _ _ tk hp => (ss_one (ss_ret (sr_val (se_dcall (all_of A) hgd hr tk (se_ix kk (se_lst (ses_cons (se_gc rfl (by rfl) T.c_read_whole) (ses_cons (se_gc rfl (by rfl) T.c_read_ratio) ses_nil))) (se_v 0)) (sas_e (se_v 1) sas_nil))))))))
theorem sc__law_ask : FnScope ["which", "one", "two"] ["which", "one", "two"] (defScope s__law_ask) := ⟨rfl, rfl, rfl, by decide +kernel, rfl, by decide +kernel, by decide +kernel⟩
theorem ok__law_ask (T : Txt P w K mg fa ca) (A : Fs P w K mg base fa ca d) {fd : FuncData} (FF : Fun K "_law_ask" "_law_ask" s__law_ask (fa 22) fd) : FnG P w K mg base (d + 1) (fa 22) fd ["which", "one", "two"] (spC (ctD DF K fa ca an (d + 1)) 22) :=
  fn_ok (C := ctD DF K fa ca an d) (T' := tabD DF (d + 1)) (ir := ir__law_ask) FF sc__law_ask (np := 3) rfl (by decide) rfl fun cdv A0 outer s H E hgd hr => by
    have sc := sc__law_ask
    have kk : (ctD DF K fa ca an d).K.k = K := rfl
    have hu := hu64 hr
    have hu1 := hu65 hr
    have hu2 := hu104 hr
    have hp : PassesOwn (model P w) _ _ (cxOf (L2.CX P w) P w K mg base ["which", "one", "two"] "_law_ask" (defScope s__law_ask) (fa 22) cdv A0 outer s H E).xe := PassesOwn.leaving
    have tk : Takes (cxOf (L2.CX P w) P w K mg base ["which", "one", "two"] "_law_ask" (defScope s__law_ask) (fa 22) cdv A0 outer s H E) (fun cls d _ H => E cls d H) := takes_of rfl rfl rfl rfl
    exact (ss_one (ss_try rfl rfl ⟨by rfl, by decide, .inl T.x_Malformed.mg⟩ tk T.sub_Malformed (fun _ _ _ tk hp => (ss_one (ss_ret (sr_val (se_dcall (all_of A) hgd hr tk (se_ix kk (se_lst (ses_cons (se_gc rfl (by rfl) T.c_ratio) (ses_cons (se_gc rfl (by rfl) T.c_over) ses_nil))) (se_v 0)) (sas_e (se_v 1) (sas_e (se_v 2) sas_nil))))))) (fun _ _ _ _ => tkS (fun tk => (ss_one (ss_ret (sr_val se_str)))))))
theorem sc__law_digits : FnScope ["text", "sign"] ["text"] (defScope s__law_digits) := ⟨rfl, rfl, rfl, by decide +kernel, rfl, by decide +kernel, by decide +kernel⟩
theorem ok__law_digits (T : Txt P w K mg fa ca) (A : Fs P w K mg base fa ca d) {fd : FuncData} (FF : Fun K "_law_digits" "_law_digits" s__law_digits (fa 23) fd) : FnG P w K mg base (d + 1) (fa 23) fd ["text"] (spC (ctD DF K fa ca an (d + 1)) 23) :=
  fn_ok (C := ctD DF K fa ca an d) (T' := tabD DF (d + 1)) (ir := ir__law_digits) FF sc__law_digits (np := 1) rfl (by decide) rfl fun cdv A0 outer s H E hgd hr => by
    have sc := sc__law_digits
    have kk : (ctD DF K fa ca an d).K.k = K := rfl
    have hu := hu64 hr
    have hu1 := hu65 hr
    have hu2 := hu104 hr
    have hp : PassesOwn (model P w) _ _ (cxOf (L2.CX P w) P w K mg base ["text", "sign"] "_law_digits" (defScope s__law_digits) (fa 23) cdv A0 outer s H E).xe := PassesOwn.leaving
    have tk : Takes (cxOf (L2.CX P w) P w K mg base ["text", "sign"] "_law_digits" (defScope s__law_digits) (fa 23) cdv A0 outer s H E) (fun cls d _ H => E cls d H) := takes_of rfl rfl rfl rfl
    exact (ss_one (ss_ret (sr_val (se_and (se_cmp (o_ne kk hu) (se_v 0) se_str) (se_and (se_callB (c_all kk rfl) (by rfl) T.m_all (ses_cons (se_comp (own := [("sign", 1)]) rfl sc.nd (si_seq kk (se_v 0)) ⟨rfl, by first | decide +kernel | exact of_decide_eq_true (by kernel_rfl), by first | decide +kernel | exact of_decide_eq_true (by kernel_rfl), by first | decide +kernel | exact of_decide_eq_true (by kernel_rfl), by first | decide +kernel | exact of_decide_eq_true (by kernel_rfl)⟩ (fun _ _ _ _ _ => (sg_n 1 sc.nd)) (fun _ _ _ _ _ => tkT (fun tk => sts_nil)) (fun _ _ _ _ _ => tkE (fun tk => (se_cmp (o_in kk hu1) (se_v 1) se_str)))) ses_nil)) (se_and1 (se_or (se_cmp (o_eq kk hu) (se_v 0) se_str) (se_or1 (se_cmp (o_ne kk hu) (se_ix kk (se_v 0) se_int) se_str)))))))))
theorem sc__law_good_whole : FnScope ["text"] ["text"] (defScope s__law_good_whole) := ⟨rfl, rfl, rfl, by decide +kernel, rfl, by decide +kernel, by decide +kernel⟩
theorem ok__law_good_whole (T : Txt P w K mg fa ca) (A : Fs P w K mg base fa ca d) {fd : FuncData} (FF : Fun K "_law_good_whole" "_law_good_whole" s__law_good_whole (fa 24) fd) : FnG P w K mg base (d + 1) (fa 24) fd ["text"] (spC (ctD DF K fa ca an (d + 1)) 24) :=
  fn_ok (C := ctD DF K fa ca an d) (T' := tabD DF (d + 1)) (ir := ir__law_good_whole) FF sc__law_good_whole (np := 1) rfl (by decide) rfl fun cdv A0 outer s H E hgd hr => by
    have sc := sc__law_good_whole
    have kk : (ctD DF K fa ca an d).K.k = K := rfl
    have hu := hu64 hr
    have hu1 := hu65 hr
    have hu2 := hu104 hr
    have hp : PassesOwn (model P w) _ _ (cxOf (L2.CX P w) P w K mg base ["text"] "_law_good_whole" (defScope s__law_good_whole) (fa 24) cdv A0 outer s H E).xe := PassesOwn.leaving
    have tk : Takes (cxOf (L2.CX P w) P w K mg base ["text"] "_law_good_whole" (defScope s__law_good_whole) (fa 24) cdv A0 outer s H E) (fun cls d _ H => E cls d H) := takes_of rfl rfl rfl rfl
    exact (ss_one (ss_ret (sr_val (se_and (se_isi kk "str" (by rfl) T.m_isinstance (by rfl) T.m_str (se_v 0)) (se_and (se_cmp (o_ne kk hu) (se_v 0) se_str) (se_and1 (se_call (A.f23) hgd hr tk (by rfl) (sas_e (se_ite (sb_cmp (o_eq kk hu) (se_sl01 kk (se_v 0) se_int) se_str) (se_sl10 kk (se_v 0) se_int) (se_v 0)) sas_nil))))))))
theorem sc__law_good_ratio : FnScope ["text", "parts"] ["text"] (defScope s__law_good_ratio) := ⟨rfl, rfl, rfl, by decide +kernel, rfl, by decide +kernel, by decide +kernel⟩
theorem ok__law_good_ratio (T : Txt P w K mg fa ca) (A : Fs P w K mg base fa ca d) {fd : FuncData} (FF : Fun K "_law_good_ratio" "_law_good_ratio" s__law_good_ratio (fa 25) fd) : FnG P w K mg base (d + 1) (fa 25) fd ["text"] (spC (ctD DF K fa ca an (d + 1)) 25) :=
  fn_ok (C := ctD DF K fa ca an d) (T' := tabD DF (d + 1)) (ir := ir__law_good_ratio) FF sc__law_good_ratio (np := 1) rfl (by decide) rfl fun cdv A0 outer s H E hgd hr => by
    have sc := sc__law_good_ratio
    have kk : (ctD DF K fa ca an d).K.k = K := rfl
    have hu := hu64 hr
    have hu1 := hu65 hr
    have hu2 := hu104 hr
    have hp : PassesOwn (model P w) _ _ (cxOf (L2.CX P w) P w K mg base ["text", "parts"] "_law_good_ratio" (defScope s__law_good_ratio) (fa 25) cdv A0 outer s H E).xe := PassesOwn.leaving
    have tk : Takes (cxOf (L2.CX P w) P w K mg base ["text", "parts"] "_law_good_ratio" (defScope s__law_good_ratio) (fa 25) cdv A0 outer s H E) (fun cls d _ H => E cls d H) := takes_of rfl rfl rfl rfl
    exact (ss_cons (ss_if (sb_not (sb_of (se_isi kk "str" (by rfl) T.m_isinstance (by rfl) T.m_str (se_v 0)))) (ss_one (ss_ret (sr_val se_bl))) ss_nil) (ss_cons (ss_set 1 sc.nd (se_split (se_v 0) se_str)) (ss_cons (ss_if (sb_cmp (o_eq kk hu) (se_callB (c_len kk) (by rfl) T.m_len (ses_cons (se_v 1) ses_nil)) se_int) (ss_one (ss_ret (sr_val (se_call (A.f24) hgd hr tk (by rfl) (sas_e (se_v 0) sas_nil))))) ss_nil) (ss_cons (ss_if (sb_pw (sb_or (sb_cmp (o_ne kk hu) (se_callB (c_len kk) (by rfl) T.m_len (ses_cons (se_v 1) ses_nil)) se_int) (sb_or (sb_not (sb_of (se_call (A.f24) hgd hr tk (by rfl) (sas_e (se_ix kk (se_v 1) se_int) sas_nil)))) (sb_or (sb_not (sb_of (se_call (A.f23) hgd hr tk (by rfl) (sas_e (se_ix kk (se_v 1) se_int) sas_nil)))) (sb_or1 (sb_cmp (o_in kk hu1) (se_ix kk (se_v 1) se_int) (se_lst (ses_cons se_str (ses_cons se_str ses_nil))))))))) (ss_one (ss_ret (sr_val se_bl))) ss_nil) (ss_one (ss_ret (sr_val (se_cmp (o_eq kk hu) (se_call (A.f18) hgd hr tk (by rfl) (sas_e (se_callTy c_int (by rfl) T.m_int (ses_cons (se_ix kk (se_v 1) se_int) ses_nil)) (sas_e (se_callTy c_int (by rfl) T.m_int (ses_cons (se_ix kk (se_v 1) se_int) ses_nil)) sas_nil))) (se_tup (ses_cons (se_callTy c_int (by rfl) T.m_int (ses_cons (se_ix kk (se_v 1) se_int) ses_nil)) (ses_cons (se_callTy c_int (by rfl) T.m_int (ses_cons (se_ix kk (se_v 1) se_int) ses_nil)) ses_nil)))))))))))
theorem sc_law : FnScope ["script", "draw", "found", "turn", "n", "d", "due", "a", "b", "sums", "less", "value", "texts", "text", "good"] ["script"] (defScope s_law) := ⟨rfl, rfl, rfl, by decide +kernel, rfl, by decide +kernel, by decide +kernel⟩
theorem ok_law (T : Txt P w K mg fa ca) (A : Fs P w K mg base fa ca d) {fd : FuncData} (FF : Fun K "law" "law" s_law (fa 26) fd) : FnG P w K mg base (d + 1) (fa 26) fd ["script"] (spC (ctD DF K fa ca an (d + 1)) 26) :=
  fn_ok (C := ctD DF K fa ca an d) (T' := tabD DF (d + 1)) (ir := ir_law) FF sc_law (np := 1) rfl (by decide) rfl fun cdv A0 outer s H E hgd hr => by
    have sc := sc_law
    have kk : (ctD DF K fa ca an d).K.k = K := rfl
    have hu := hu64 hr
    have hu1 := hu65 hr
    have hu2 := hu104 hr
    have hp : PassesOwn (model P w) _ _ (cxOf (L2.CX P w) P w K mg base ["script", "draw", "found", "turn", "n", "d", "due", "a", "b", "sums", "less", "value", "texts", "text", "good"] "law" (defScope s_law) (fa 26) cdv A0 outer s H E).xe := PassesOwn.leaving
    have tk : Takes (cxOf (L2.CX P w) P w K mg base ["script", "draw", "found", "turn", "n", "d", "due", "a", "b", "sums", "less", "value", "texts", "text", "good"] "law" (defScope s_law) (fa 26) cdv A0 outer s H E) (fun cls d _ H => E cls d H) := takes_of rfl rfl rfl rfl
    exact (ss_cons (ss_setm 1 sc.nd (sr_call (A.f16) hgd hr tk (by rfl) (sas_e (se_v 0) sas_nil))) (ss_cons (ss_set 2 sc.nd (se_lst ses_nil)) (ss_cons (ss_for hp rfl (si_range1 (by rfl) T.m_range se_int) (sg_n 3 sc.nd) (ss_cons (ss_par 4 5 rfl sc.nd (sr_val (se_call (A.f19) hgd hr tk (by rfl) (sas_s 1 sas_nil))) (sr_val (se_call (A.f19) hgd hr tk (by rfl) (sas_s 1 sas_nil)))) (ss_cons (ss_set 6 sc.nd (se_ite (sb_cmp (o_eq kk hu) (se_v 5) se_int) se_str (se_call (A.f18) hgd hr tk (by rfl) (sas_e (se_v 4) (sas_e (se_v 5) sas_nil))))) (ss_cons (ss_if (sb_pw (sb_or (sb_cmp (o_ne kk hu) (se_call (A.f22) hgd hr tk (by rfl) (sas_e se_int (sas_e (se_v 4) (sas_e (se_v 5) sas_nil)))) (se_v 6)) (sb_or1 (sb_cmp (o_ne kk hu) (se_call (A.f5) hgd hr tk (by rfl) (sas_e (se_tup (ses_cons (se_v 4) (ses_cons (se_v 5) ses_nil))) sas_nil)) (se_and (se_cmp o_gt (se_v 5) se_int) (se_and1 (se_cmp (o_eq kk hu) (se_v 6) (se_tup (ses_cons (se_v 4) (ses_cons (se_v 5) ses_nil)))))))))) (ss_one (ss_ret (sr_val se_bl))) ss_nil) (ss_one (ss_set 2 sc.nd (se_bin (o_add kk) (se_v 2) (se_ite (sb_cmp (o_ne kk hu) (se_v 5) se_int) (se_lst (ses_cons (se_v 6) ses_nil)) (se_lst ses_nil))))))))) (ss_cons (ss_set 2 sc.nd (se_bin (o_add kk) (se_v 2) (se_lst (ses_cons (se_tup (ses_cons se_int (ses_cons se_int ses_nil))) (ses_cons (se_tup (ses_cons se_int (ses_cons se_int ses_nil))) (ses_cons (se_tup (ses_cons (se_bin o_sub se_int se_int) (ses_cons se_int ses_nil))) ses_nil)))))) (ss_cons (ss_for hp rfl (si_range1 (by rfl) T.m_range se_int) (sg_n 3 sc.nd) (ss_cons (ss_par 7 8 rfl sc.nd (sr_val (se_ix kk (se_v 2) (se_call (A.f17) hgd hr tk (by rfl) (sas_s 1 (sas_e (se_callB (c_len kk) (by rfl) T.m_len (ses_cons (se_v 2) ses_nil)) sas_nil))))) (sr_val (se_ix kk (se_v 2) (se_call (A.f17) hgd hr tk (by rfl) (sas_s 1 (sas_e (se_callB (c_len kk) (by rfl) T.m_len (ses_cons (se_v 2) ses_nil)) sas_nil)))))) (ss_cons (ss_if (sb_pw (sb_or (sb_cmp (o_ne kk hu) (se_call (A.f6) hgd hr tk (by rfl) (sas_e (se_v 7) (sas_e (se_v 8) sas_nil))) (se_call (A.f18) hgd hr tk (by rfl) (sas_e (se_bin (o_add kk) (se_bin o_mul (se_ix kk (se_v 7) se_int) (se_ix kk (se_v 8) se_int)) (se_bin o_mul (se_ix kk (se_v 8) se_int) (se_ix kk (se_v 7) se_int))) (sas_e (se_bin o_mul (se_ix kk (se_v 7) se_int) (se_ix kk (se_v 8) se_int)) sas_nil)))) (sb_or1 (sb_cmp (o_ne kk hu) (se_call (A.f7) hgd hr tk (by rfl) (sas_e (se_v 7) (sas_e (se_v 8) sas_nil))) (se_call (A.f18) hgd hr tk (by rfl) (sas_e (se_bin o_sub (se_bin o_mul (se_ix kk (se_v 7) se_int) (se_ix kk (se_v 8) se_int)) (se_bin o_mul (se_ix kk (se_v 8) se_int) (se_ix kk (se_v 7) se_int))) (sas_e (se_bin o_mul (se_ix kk (se_v 7) se_int) (se_ix kk (se_v 8) se_int)) sas_nil))))))) (ss_one (ss_ret (sr_val se_bl))) ss_nil) (ss_cons (ss_if (sb_pw (sb_or (sb_cmp (o_ne kk hu) (se_call (A.f8) hgd hr tk (by rfl) (sas_e (se_v 7) (sas_e (se_v 8) sas_nil))) (se_call (A.f18) hgd hr tk (by rfl) (sas_e (se_bin o_mul (se_ix kk (se_v 7) se_int) (se_ix kk (se_v 8) se_int)) (sas_e (se_bin o_mul (se_ix kk (se_v 7) se_int) (se_ix kk (se_v 8) se_int)) sas_nil)))) (sb_or1 (sb_cmp (o_ne kk hu) (se_call (A.f22) hgd hr tk (by rfl) (sas_e se_int (sas_e (se_v 7) (sas_e (se_v 8) sas_nil)))) (se_ite (sb_cmp (o_eq kk hu) (se_ix kk (se_v 8) se_int) se_int) se_str (se_call (A.f18) hgd hr tk (by rfl) (sas_e (se_bin o_mul (se_ix kk (se_v 7) se_int) (se_ix kk (se_v 8) se_int)) (sas_e (se_bin o_mul (se_ix kk (se_v 7) se_int) (se_ix kk (se_v 8) se_int)) sas_nil)))))))) (ss_one (ss_ret (sr_val se_bl))) ss_nil) (ss_cons (ss_set 9 sc.nd (se_lst (ses_cons (se_call (A.f18) hgd hr tk (by rfl) (sas_e (se_bin (o_add kk) (se_bin o_mul (se_ix kk (se_v 7) se_int) (se_ix kk (se_v 8) se_int)) (se_bin o_mul (se_ix kk (se_v 8) se_int) (se_ix kk (se_v 7) se_int))) (sas_e (se_bin o_mul (se_ix kk (se_v 7) se_int) (se_ix kk (se_v 8) se_int)) sas_nil))) (ses_cons (se_call (A.f18) hgd hr tk (by rfl) (sas_e (se_bin o_mul (se_ix kk (se_v 7) se_int) (se_ix kk (se_v 8) se_int)) (sas_e (se_bin o_mul (se_ix kk (se_v 7) se_int) (se_ix kk (se_v 8) se_int)) sas_nil))) ses_nil)))) (ss_cons (ss_if (sb_cmp (o_ne kk hu) (se_callB (c_repr kk hu2 hgd) (by rfl) T.m_repr (ses_cons (se_lst (ses_cons (se_call (A.f6) hgd hr tk (by rfl) (sas_e (se_v 7) (sas_e (se_v 8) sas_nil))) (ses_cons (se_call (A.f8) hgd hr tk (by rfl) (sas_e (se_v 7) (sas_e (se_v 8) sas_nil))) (ses_cons (se_call (A.f14) hgd hr tk (by rfl) (sas_e (se_v 7) sas_nil)) ses_nil)))) ses_nil)) (se_callB (c_repr kk hu2 hgd) (by rfl) T.m_repr (ses_cons (se_bin (o_add kk) (se_v 9) (se_lst (ses_cons (se_call (A.f20) hgd hr tk (by rfl) (sas_e (se_v 7) sas_nil)) ses_nil))) ses_nil))) (ss_one (ss_ret (sr_val se_bl))) ss_nil) (ss_cons (ss_set 10 sc.nd (se_cmp o_lt (se_bin o_mul (se_ix kk (se_v 7) se_int) (se_ix kk (se_v 8) se_int)) (se_bin o_mul (se_ix kk (se_v 8) se_int) (se_ix kk (se_v 7) se_int)))) (ss_cons (ss_if (sb_pw (sb_or (sb_cmp (o_ne kk hu) (se_call (A.f10) hgd hr tk (by rfl) (sas_e (se_v 7) (sas_e (se_v 8) sas_nil))) (se_v 10)) (sb_or (sb_cmp (o_ne kk hu) (se_call (A.f12) hgd hr tk (by rfl) (sas_e (se_v 7) (sas_e (se_v 8) sas_nil))) (se_ite (sb_of (se_v 10)) (se_v 7) (se_v 8))) (sb_or1 (sb_cmp (o_ne kk hu) (se_call (A.f13) hgd hr tk (by rfl) (sas_e (se_v 7) (sas_e (se_v 8) sas_nil))) (se_ite (sb_of (se_v 10)) (se_v 8) (se_v 7))))))) (ss_one (ss_ret (sr_val se_bl))) ss_nil) (ss_one (ss_if (sb_pw (sb_or (sb_cmp (o_ne kk hu) (se_call (A.f14) hgd hr tk (by rfl) (sas_e (se_v 7) sas_nil)) (se_call (A.f20) hgd hr tk (by rfl) (sas_e (se_v 7) sas_nil))) (sb_or1 (sb_cmp (o_ne kk hu) (se_call (A.f21) hgd hr tk (by rfl) (sas_e se_int (sas_e (se_call (A.f20) hgd hr tk (by rfl) (sas_e (se_v 7) sas_nil)) sas_nil))) (se_v 7))))) (ss_one (ss_ret (sr_val se_bl))) ss_nil)))))))))) (ss_cons (ss_set 9 sc.nd (se_tup (ses_cons se_int (ses_cons se_int ses_nil)))) (ss_cons (ss_for hp rfl (si_seq kk (se_v 2)) (sg_n 7 sc.nd) (ss_one (ss_set 9 sc.nd (se_call (A.f18) hgd hr tk (by rfl) (sas_e (se_bin (o_add kk) (se_bin o_mul (se_ix kk (se_v 9) se_int) (se_ix kk (se_v 7) se_int)) (se_bin o_mul (se_ix kk (se_v 7) se_int) (se_ix kk (se_v 9) se_int))) (sas_e (se_bin o_mul (se_ix kk (se_v 9) se_int) (se_ix kk (se_v 7) se_int)) sas_nil)))))) (ss_cons (ss_if (sb_pw (sb_or (sb_cmp (o_ne kk hu) (se_call (A.f11) hgd hr tk (by rfl) (sas_e (se_v 2) sas_nil)) (se_v 9)) (sb_or (sb_cmp (o_ne kk hu) (se_call (A.f11) hgd hr tk (by rfl) (sas_e (se_callTy (c_tuple kk) (by rfl) T.m_tuple (ses_cons (se_v 2) ses_nil)) sas_nil)) (se_v 9)) (sb_or1 (sb_cmp (o_ne kk hu) (se_call (A.f11) hgd hr tk (by rfl) (sas_e (se_lst ses_nil) sas_nil)) (se_tup (ses_cons se_int (ses_cons se_int ses_nil)))))))) (ss_one (ss_ret (sr_val se_bl))) ss_nil) (ss_cons (ss_for hp rfl (si_seq kk (se_lst (ses_cons se_non (ses_cons se_str (ses_cons (se_tup (ses_cons se_int ses_nil)) (ses_cons (se_tup (ses_cons se_int (ses_cons se_int (ses_cons se_int ses_nil)))) (ses_cons (se_lst (ses_cons se_int (ses_cons se_int ses_nil))) (ses_cons (se_tup (ses_cons se_bl (ses_cons se_int ses_nil))) (ses_cons (se_tup (ses_cons se_int (ses_cons se_bl ses_nil))) (ses_cons (se_tup (ses_cons se_int (ses_cons se_int ses_nil))) (ses_cons (se_tup (ses_cons se_int (ses_cons se_int ses_nil))) (ses_cons (se_tup (ses_cons se_int (ses_cons (se_bin o_sub se_int se_int) ses_nil))) (ses_cons (se_tup (ses_cons se_int (ses_cons se_int ses_nil))) (ses_cons (se_tup (ses_cons se_int (ses_cons se_int ses_nil))) ses_nil)))))))))))))) (sg_n 11 sc.nd) (ss_one (ss_if (sb_cmp (o_ne kk hu) (se_call (A.f5) hgd hr tk (by rfl) (sas_e (se_v 11) sas_nil)) (se_and (se_cmp (o_eq kk hu) (se_v 11) (se_tup (ses_cons se_int (ses_cons se_int ses_nil)))) (se_and1 (se_isi kk "tuple" (by rfl) T.m_isinstance (by rfl) T.m_tuple (se_v 11))))) (ss_one (ss_ret (sr_val se_bl))) ss_nil))) (ss_cons (ss_if (sb_cmp (o_ne kk hu) (se_comp (own := [("value", 11)]) rfl sc.nd (si_seq kk (se_lst (ses_cons se_int (ses_cons (se_un o_neg se_int) (ses_cons se_bl (ses_cons se_bl (ses_cons se_non (ses_cons se_str (ses_cons (se_tup (ses_cons se_int ses_nil)) ses_nil))))))))) ⟨rfl, by first | decide +kernel | exact of_decide_eq_true (by kernel_rfl), by first | decide +kernel | exact of_decide_eq_true (by kernel_rfl), by first | decide +kernel | exact of_decide_eq_true (by kernel_rfl), by first | decide +kernel | exact of_decide_eq_true (by kernel_rfl)⟩ (fun _ _ _ _ _ => (sg_n 11 sc.nd)) (fun _ _ _ _ _ => tkT (fun tk => sts_nil)) (fun _ _ _ _ _ => tkE (fun tk => (se_call (A.f0) hgd hr tk (by rfl) (sas_e (se_v 11) sas_nil))))) (se_lst (ses_cons se_bl (ses_cons se_bl (ses_cons se_bl (ses_cons se_bl (ses_cons se_bl (ses_cons se_bl (ses_cons se_bl ses_nil))))))))) (ss_one (ss_ret (sr_val se_bl))) ss_nil) (ss_cons (ss_set 12 sc.nd (se_lst (ses_cons se_str (ses_cons se_str (ses_cons se_str (ses_cons se_str (ses_cons se_str (ses_cons se_str (ses_cons se_str (ses_cons se_str (ses_cons se_str (ses_cons se_str (ses_cons se_str (ses_cons se_str (ses_cons se_str (ses_cons se_str (ses_cons se_str (ses_cons se_str (ses_cons se_str (ses_cons se_str (ses_cons se_str (ses_cons se_str (ses_cons se_str (ses_cons se_str (ses_cons se_str (ses_cons se_non (ses_cons se_int (ses_cons se_str ses_nil)))))))))))))))))))))))))))) (ss_cons (ss_for hp rfl (si_seq kk (se_bin (o_add kk) (se_v 12) (se_lst (ses_cons (se_bin (o_add kk) (se_call (A.f20) hgd hr tk (by rfl) (sas_e (se_ix kk (se_v 2) se_int) sas_nil)) (se_ix kk (se_lst (ses_cons se_str (ses_cons se_str (ses_cons se_str (ses_cons se_str ses_nil))))) (se_call (A.f17) hgd hr tk (by rfl) (sas_s 1 (sas_e se_int sas_nil))))) ses_nil)))) (sg_n 13 sc.nd) (ss_cons (ss_if (sb_cmp (o_ne kk hu) (se_call (A.f21) hgd hr tk (by rfl) (sas_e se_int (sas_e (se_v 13) sas_nil))) (se_ite (sb_of (se_call (A.f24) hgd hr tk (by rfl) (sas_e (se_v 13) sas_nil))) (se_callTy c_int (by rfl) T.m_int (ses_cons (se_v 13) ses_nil)) se_str)) (ss_one (ss_ret (sr_val se_bl))) ss_nil) (ss_cons (ss_set 14 sc.nd (se_call (A.f25) hgd hr tk (by rfl) (sas_e (se_v 13) sas_nil))) (ss_one (ss_if (sb_cmp (o_ne kk hu) (se_call (A.f21) hgd hr tk (by rfl) (sas_e se_int (sas_e (se_v 13) sas_nil))) (se_ite (sb_not (sb_of (se_v 14))) se_str (se_tup (ses_cons (se_callTy c_int (by rfl) T.m_int (ses_cons (se_ix kk (se_split (se_v 13) se_str) se_int) ses_nil)) (ses_cons (se_ite (sb_cmp (o_in kk hu1) se_str (se_v 13)) (se_callTy c_int (by rfl) T.m_int (ses_cons (se_ix kk (se_split (se_v 13) se_str) se_int) ses_nil)) se_int) ses_nil))))) (ss_one (ss_ret (sr_val se_bl))) ss_nil))))) (ss_one (ss_ret (sr_val (se_cmp (o_eq kk hu) (se_lst (ses_cons (se_call (A.f22) hgd hr tk (by rfl) (sas_e se_int (sas_e se_int (sas_e se_int sas_nil)))) (ses_cons (se_call (A.f22) hgd hr tk (by rfl) (sas_e se_int (sas_e se_bl (sas_e se_int sas_nil)))) (ses_cons (se_call (A.f22) hgd hr tk (by rfl) (sas_e se_int (sas_e se_int (sas_e se_non sas_nil)))) (ses_cons (se_call (A.f22) hgd hr tk (by rfl) (sas_e se_int (sas_e se_str (sas_e se_int sas_nil)))) (ses_cons (se_call (A.f22) hgd hr tk (by rfl) (sas_e se_int (sas_e (se_tup (ses_cons se_int (ses_cons se_int ses_nil))) (sas_e (se_tup (ses_cons se_int (ses_cons se_int ses_nil))) sas_nil)))) ses_nil)))))) (se_rep (ses_cons se_str ses_nil))))))))))))))))))
end
/-! ### the head -/
structure Dfs (K : PySem.W.Frag) (mg : Str → Option Value) (fa : Nat → Addr) : Prop where
  e0 : ∃ fd, FnAd K mg fa fd ["value"] "is_whole" 0 ∧ Fun K "is_whole" "is_whole" s_is_whole (fa 0) fd
  e1 : ∃ fd, FnAd K mg fa fd ["text"] "read_whole" 1 ∧ Fun K "read_whole" "read_whole" s_read_whole (fa 1) fd
  e2 : ∃ fd, FnAd K mg fa fd ["a", "b"] "common" 2 ∧ Fun K "common" "common" s_common (fa 2) fd
  e3 : ∃ fd, FnAd K mg fa fd ["n", "d"] "lowest" 3 ∧ Fun K "lowest" "lowest" s_lowest (fa 3) fd
  e4 : ∃ fd, FnAd K mg fa fd ["n", "d"] "ratio" 4 ∧ Fun K "ratio" "ratio" s_ratio (fa 4) fd
  e5 : ∃ fd, FnAd K mg fa fd ["value"] "is_ratio" 5 ∧ Fun K "is_ratio" "is_ratio" s_is_ratio (fa 5) fd
  e6 : ∃ fd, FnAd K mg fa fd ["a", "b"] "plus" 6 ∧ Fun K "plus" "plus" s_plus (fa 6) fd
  e7 : ∃ fd, FnAd K mg fa fd ["a", "b"] "minus" 7 ∧ Fun K "minus" "minus" s_minus (fa 7) fd
  e8 : ∃ fd, FnAd K mg fa fd ["a", "b"] "times" 8 ∧ Fun K "times" "times" s_times (fa 8) fd
  e9 : ∃ fd, FnAd K mg fa fd ["a", "b"] "over" 9 ∧ Fun K "over" "over" s_over (fa 9) fd
  e10 : ∃ fd, FnAd K mg fa fd ["a", "b"] "below" 10 ∧ Fun K "below" "below" s_below (fa 10) fd
  e11 : ∃ fd, FnAd K mg fa fd ["items"] "total" 11 ∧ Fun K "total" "total" s_total (fa 11) fd
  e12 : ∃ fd, FnAd K mg fa fd ["a", "b"] "lesser" 12 ∧ Fun K "lesser" "lesser" s_lesser (fa 12) fd
  e13 : ∃ fd, FnAd K mg fa fd ["a", "b"] "greater" 13 ∧ Fun K "greater" "greater" s_greater (fa 13) fd
  e14 : ∃ fd, FnAd K mg fa fd ["a"] "ratio_text" 14 ∧ Fun K "ratio_text" "ratio_text" s_ratio_text (fa 14) fd
  e15 : ∃ fd, FnAd K mg fa fd ["text"] "read_ratio" 15 ∧ Fun K "read_ratio" "read_ratio" s_read_ratio (fa 15) fd
  e16 : ∃ fd, FnAd K mg fa fd ["script"] "_law_draw" 16 ∧ Fun K "_law_draw" "_law_draw" s__law_draw (fa 16) fd
  e17 : ∃ fd, FnAd K mg fa fd ["draw", "many"] "_law_take" 17 ∧ Fun K "_law_take" "_law_take" s__law_take (fa 17) fd
  e18 : ∃ fd, FnAd K mg fa fd ["n", "d"] "_law_low" 18 ∧ Fun K "_law_low" "_law_low" s__law_low (fa 18) fd
  e19 : ∃ fd, FnAd K mg fa fd ["draw"] "_law_number" 19 ∧ Fun K "_law_number" "_law_number" s__law_number (fa 19) fd
  e20 : ∃ fd, FnAd K mg fa fd ["value"] "_law_text" 20 ∧ Fun K "_law_text" "_law_text" s__law_text (fa 20) fd
  e21 : ∃ fd, FnAd K mg fa fd ["which", "text"] "_law_read" 21 ∧ Fun K "_law_read" "_law_read" s__law_read (fa 21) fd
  e22 : ∃ fd, FnAd K mg fa fd ["which", "one", "two"] "_law_ask" 22 ∧ Fun K "_law_ask" "_law_ask" s__law_ask (fa 22) fd
  e23 : ∃ fd, FnAd K mg fa fd ["text"] "_law_digits" 23 ∧ Fun K "_law_digits" "_law_digits" s__law_digits (fa 23) fd
  e24 : ∃ fd, FnAd K mg fa fd ["text"] "_law_good_whole" 24 ∧ Fun K "_law_good_whole" "_law_good_whole" s__law_good_whole (fa 24) fd
  e25 : ∃ fd, FnAd K mg fa fd ["text"] "_law_good_ratio" 25 ∧ Fun K "_law_good_ratio" "_law_good_ratio" s__law_good_ratio (fa 25) fd
  e26 : ∃ fd, FnAd K mg fa fd ["script"] "law" 26 ∧ Fun K "law" "law" s_law (fa 26) fd
theorem fs_all {P : Program} {w : World} {K : PySem.W.Frag} {mg : Str → Option Value} {base : Heap} {fa ca : Nat → Addr} (T : Txt P w K mg fa ca) (D : Dfs K mg fa) : ∀ d, Fs P w K mg base fa ca d
  | 0 => ⟨let ⟨_, a, _⟩ := D.e0; fnAt_of a (fnG0 0), let ⟨_, a, _⟩ := D.e1; fnAt_of a (fnG0 1), let ⟨_, a, _⟩ := D.e2; fnAt_of a (fnG0 2), let ⟨_, a, _⟩ := D.e3; fnAt_of a (fnG0 3), let ⟨_, a, _⟩ := D.e4; fnAt_of a (fnG0 4), let ⟨_, a, _⟩ := D.e5; fnAt_of a (fnG0 5), let ⟨_, a, _⟩ := D.e6; fnAt_of a (fnG0 6), let ⟨_, a, _⟩ := D.e7; fnAt_of a (fnG0 7), let ⟨_, a, _⟩ := D.e8; fnAt_of a (fnG0 8), let ⟨_, a, _⟩ := D.e9; fnAt_of a (fnG0 9), let ⟨_, a, _⟩ := D.e10; fnAt_of a (fnG0 10), let ⟨_, a, _⟩ := D.e11; fnAt_of a (fnG0 11), let ⟨_, a, _⟩ := D.e12; fnAt_of a (fnG0 12), let ⟨_, a, _⟩ := D.e13; fnAt_of a (fnG0 13), let ⟨_, a, _⟩ := D.e14; fnAt_of a (fnG0 14), let ⟨_, a, _⟩ := D.e15; fnAt_of a (fnG0 15), let ⟨_, a, _⟩ := D.e16; fnAt_of a (fnG0 16), let ⟨_, a, _⟩ := D.e17; fnAt_of a (fnG0 17), let ⟨_, a, _⟩ := D.e18; fnAt_of a (fnG0 18), let ⟨_, a, _⟩ := D.e19; fnAt_of a (fnG0 19), let ⟨_, a, _⟩ := D.e20; fnAt_of a (fnG0 20), let ⟨_, a, _⟩ := D.e21; fnAt_of a (fnG0 21), let ⟨_, a, _⟩ := D.e22; fnAt_of a (fnG0 22), let ⟨_, a, _⟩ := D.e23; fnAt_of a (fnG0 23), let ⟨_, a, _⟩ := D.e24; fnAt_of a (fnG0 24), let ⟨_, a, _⟩ := D.e25; fnAt_of a (fnG0 25), let ⟨_, a, _⟩ := D.e26; fnAt_of a (fnG0 26)⟩
  | d + 1 => have A := fs_all T D d; ⟨let ⟨_, a, F⟩ := D.e0; fnAt_of a (ok_is_whole T A F), let ⟨_, a, F⟩ := D.e1; fnAt_of a (ok_read_whole T A F), let ⟨_, a, F⟩ := D.e2; fnAt_of a (ok_common T A F), let ⟨_, a, F⟩ := D.e3; fnAt_of a (ok_lowest T A F), let ⟨_, a, F⟩ := D.e4; fnAt_of a (ok_ratio T A F), let ⟨_, a, F⟩ := D.e5; fnAt_of a (ok_is_ratio T A F), let ⟨_, a, F⟩ := D.e6; fnAt_of a (ok_plus T A F), let ⟨_, a, F⟩ := D.e7; fnAt_of a (ok_minus T A F), let ⟨_, a, F⟩ := D.e8; fnAt_of a (ok_times T A F), let ⟨_, a, F⟩ := D.e9; fnAt_of a (ok_over T A F), let ⟨_, a, F⟩ := D.e10; fnAt_of a (ok_below T A F), let ⟨_, a, F⟩ := D.e11; fnAt_of a (ok_total T A F), let ⟨_, a, F⟩ := D.e12; fnAt_of a (ok_lesser T A F), let ⟨_, a, F⟩ := D.e13; fnAt_of a (ok_greater T A F), let ⟨_, a, F⟩ := D.e14; fnAt_of a (ok_ratio_text T A F), let ⟨_, a, F⟩ := D.e15; fnAt_of a (ok_read_ratio T A F), let ⟨_, a, F⟩ := D.e16; fnAt_of a (ok__law_draw T A F), let ⟨_, a, F⟩ := D.e17; fnAt_of a (ok__law_take T A F), let ⟨_, a, F⟩ := D.e18; fnAt_of a (ok__law_low T A F), let ⟨_, a, F⟩ := D.e19; fnAt_of a (ok__law_number T A F), let ⟨_, a, F⟩ := D.e20; fnAt_of a (ok__law_text T A F), let ⟨_, a, F⟩ := D.e21; fnAt_of a (ok__law_read T A F), let ⟨_, a, F⟩ := D.e22; fnAt_of a (ok__law_ask T A F), let ⟨_, a, F⟩ := D.e23; fnAt_of a (ok__law_digits T A F), let ⟨_, a, F⟩ := D.e24; fnAt_of a (ok__law_good_whole T A F), let ⟨_, a, F⟩ := D.e25; fnAt_of a (ok__law_good_ratio T A F), let ⟨_, a, F⟩ := D.e26; fnAt_of a (ok_law T A F)⟩
theorem all_mk {P : Program} {w : World} {K : PySem.W.Frag} {h : Heap} {mg : Str → Option Value} {fl : Addr} (X : K.In h) (G : h.Ns mainGlobals mg) (hfl : mg "law" = some (.ref fl))
    {od0 an0 : Option Addr} {sl0 : Array (Option Value)} {oc0 kV0 dc0 pm0 cd0 ct0 : Value} {f0 : Addr} {od1 an1 : Option Addr} {sl1 : Array (Option Value)} {oc1 kV1 dc1 pm1 cd1 ct1 : Value} {f1 : Addr} {od2 an2 : Option Addr} {sl2 : Array (Option Value)} {oc2 kV2 dc2 pm2 cd2 ct2 : Value} {f2 : Addr} {od3 an3 : Option Addr} {sl3 : Array (Option Value)} {oc3 kV3 dc3 pm3 cd3 ct3 : Value} {f3 : Addr} {od4 an4 : Option Addr} {sl4 : Array (Option Value)} {oc4 kV4 dc4 pm4 cd4 ct4 : Value} {f4 : Addr} {od5 an5 : Option Addr} {sl5 : Array (Option Value)} {oc5 kV5 dc5 pm5 cd5 ct5 : Value} {f5 : Addr} {od6 an6 : Option Addr} {sl6 : Array (Option Value)} {oc6 kV6 dc6 pm6 cd6 ct6 : Value} {f6 : Addr} {od7 an7 : Option Addr} {sl7 : Array (Option Value)} {oc7 kV7 dc7 pm7 cd7 ct7 : Value} {f7 : Addr} {od8 an8 : Option Addr} {sl8 : Array (Option Value)} {oc8 kV8 dc8 pm8 cd8 ct8 : Value} {f8 : Addr} {od9 an9 : Option Addr} {sl9 : Array (Option Value)} {oc9 kV9 dc9 pm9 cd9 ct9 : Value} {f9 : Addr} {od10 an10 : Option Addr} {sl10 : Array (Option Value)} {oc10 kV10 dc10 pm10 cd10 ct10 : Value} {f10 : Addr} {od11 an11 : Option Addr} {sl11 : Array (Option Value)} {oc11 kV11 dc11 pm11 cd11 ct11 : Value} {f11 : Addr} {od12 an12 : Option Addr} {sl12 : Array (Option Value)} {oc12 kV12 dc12 pm12 cd12 ct12 : Value} {f12 : Addr} {od13 an13 : Option Addr} {sl13 : Array (Option Value)} {oc13 kV13 dc13 pm13 cd13 ct13 : Value} {f13 : Addr} {od14 an14 : Option Addr} {sl14 : Array (Option Value)} {oc14 kV14 dc14 pm14 cd14 ct14 : Value} {f14 : Addr} {od15 an15 : Option Addr} {sl15 : Array (Option Value)} {oc15 kV15 dc15 pm15 cd15 ct15 : Value} {f15 : Addr} {od16 an16 : Option Addr} {sl16 : Array (Option Value)} {oc16 kV16 dc16 pm16 cd16 ct16 : Value} {f16 : Addr} {od17 an17 : Option Addr} {sl17 : Array (Option Value)} {oc17 kV17 dc17 pm17 cd17 ct17 : Value} {f17 : Addr} {od18 an18 : Option Addr} {sl18 : Array (Option Value)} {oc18 kV18 dc18 pm18 cd18 ct18 : Value} {f18 : Addr} {od19 an19 : Option Addr} {sl19 : Array (Option Value)} {oc19 kV19 dc19 pm19 cd19 ct19 : Value} {f19 : Addr} {od20 an20 : Option Addr} {sl20 : Array (Option Value)} {oc20 kV20 dc20 pm20 cd20 ct20 : Value} {f20 : Addr} {od21 an21 : Option Addr} {sl21 : Array (Option Value)} {oc21 kV21 dc21 pm21 cd21 ct21 : Value} {f21 : Addr} {od22 an22 : Option Addr} {sl22 : Array (Option Value)} {oc22 kV22 dc22 pm22 cd22 ct22 : Value} {f22 : Addr} {od23 an23 : Option Addr} {sl23 : Array (Option Value)} {oc23 kV23 dc23 pm23 cd23 ct23 : Value} {f23 : Addr} {od24 an24 : Option Addr} {sl24 : Array (Option Value)} {oc24 kV24 dc24 pm24 cd24 ct24 : Value} {f24 : Addr} {od25 an25 : Option Addr} {sl25 : Array (Option Value)} {oc25 kV25 dc25 pm25 cd25 ct25 : Value} {f25 : Addr} {od26 an26 : Option Addr} {sl26 : Array (Option Value)} {oc26 kV26 dc26 pm26 cd26 ct26 : Value} {f26 : Addr} {t_MOST_DIGITS : Tok} {t_DIGITS : Tok} {p_ZERO : Addr} {o_ZERO : Option Addr} {n_ZERO : Nat} {y_ZERO : Array (Option Value)} {t_ZERO0 t_ZERO1 : Tok} {C0 : Addr} {C1 : Addr} {nm1 qn1 : Str} {N1 CB1 : Addr} {bs1 sub1 : List Value} {sn1 : List Str} {ab1 : Bool} {col1 : Option Bool} {dd1 : Option Addr} {m0_1 m1_1 m2_1 m3_1 m5_1 : Option Value} {fi1 cda1 cc1 : Addr} {ioc1 idc1 ipm1 ict1 : Value} {iod1 ian1 icdd1 icld1 : Option Addr} {isl1 iccs1 icsl1 : Array (Option Value)} {iccl1 icl1 : Value} {ivs1 : Array Value} {ifile1 : Str} {itf1 : Tok}
    (a0 : PySem.W.nsIn K mainGlobals "is_whole" = some (some (.ref f0)))
    (l0 : K.lookup f0 = some ⟨oc0, od0, .func (PySem.W.fnOf "is_whole" "is_whole" (defArgs s_is_whole) (defBody s_is_whole) (defScope s_is_whole) .none kV0 dc0 pm0 an0 cd0 ct0), sl0⟩)
    (c0 : PySem.W.codeIn K cd0 "is_whole" = true)
    (k0 : PySem.W.keepIn K (.ref f0) = true)
    (a1 : PySem.W.nsIn K mainGlobals "read_whole" = some (some (.ref f1)))
    (l1 : K.lookup f1 = some ⟨oc1, od1, .func (PySem.W.fnOf "read_whole" "read_whole" (defArgs s_read_whole) (defBody s_read_whole) (defScope s_read_whole) .none kV1 dc1 pm1 an1 cd1 ct1), sl1⟩)
    (c1 : PySem.W.codeIn K cd1 "read_whole" = true)
    (k1 : PySem.W.keepIn K (.ref f1) = true)
    (a2 : PySem.W.nsIn K mainGlobals "common" = some (some (.ref f2)))
    (l2 : K.lookup f2 = some ⟨oc2, od2, .func (PySem.W.fnOf "common" "common" (defArgs s_common) (defBody s_common) (defScope s_common) .none kV2 dc2 pm2 an2 cd2 ct2), sl2⟩)
    (c2 : PySem.W.codeIn K cd2 "common" = true)
    (k2 : PySem.W.keepIn K (.ref f2) = true)
    (a3 : PySem.W.nsIn K mainGlobals "lowest" = some (some (.ref f3)))
    (l3 : K.lookup f3 = some ⟨oc3, od3, .func (PySem.W.fnOf "lowest" "lowest" (defArgs s_lowest) (defBody s_lowest) (defScope s_lowest) .none kV3 dc3 pm3 an3 cd3 ct3), sl3⟩)
    (c3 : PySem.W.codeIn K cd3 "lowest" = true)
    (k3 : PySem.W.keepIn K (.ref f3) = true)
    (a4 : PySem.W.nsIn K mainGlobals "ratio" = some (some (.ref f4)))
    (l4 : K.lookup f4 = some ⟨oc4, od4, .func (PySem.W.fnOf "ratio" "ratio" (defArgs s_ratio) (defBody s_ratio) (defScope s_ratio) .none kV4 dc4 pm4 an4 cd4 ct4), sl4⟩)
    (c4 : PySem.W.codeIn K cd4 "ratio" = true)
    (k4 : PySem.W.keepIn K (.ref f4) = true)
    (a5 : PySem.W.nsIn K mainGlobals "is_ratio" = some (some (.ref f5)))
    (l5 : K.lookup f5 = some ⟨oc5, od5, .func (PySem.W.fnOf "is_ratio" "is_ratio" (defArgs s_is_ratio) (defBody s_is_ratio) (defScope s_is_ratio) .none kV5 dc5 pm5 an5 cd5 ct5), sl5⟩)
    (c5 : PySem.W.codeIn K cd5 "is_ratio" = true)
    (k5 : PySem.W.keepIn K (.ref f5) = true)
    (a6 : PySem.W.nsIn K mainGlobals "plus" = some (some (.ref f6)))
    (l6 : K.lookup f6 = some ⟨oc6, od6, .func (PySem.W.fnOf "plus" "plus" (defArgs s_plus) (defBody s_plus) (defScope s_plus) .none kV6 dc6 pm6 an6 cd6 ct6), sl6⟩)
    (c6 : PySem.W.codeIn K cd6 "plus" = true)
    (k6 : PySem.W.keepIn K (.ref f6) = true)
    (a7 : PySem.W.nsIn K mainGlobals "minus" = some (some (.ref f7)))
    (l7 : K.lookup f7 = some ⟨oc7, od7, .func (PySem.W.fnOf "minus" "minus" (defArgs s_minus) (defBody s_minus) (defScope s_minus) .none kV7 dc7 pm7 an7 cd7 ct7), sl7⟩)
    (c7 : PySem.W.codeIn K cd7 "minus" = true)
    (k7 : PySem.W.keepIn K (.ref f7) = true)
    (a8 : PySem.W.nsIn K mainGlobals "times" = some (some (.ref f8)))
    (l8 : K.lookup f8 = some ⟨oc8, od8, .func (PySem.W.fnOf "times" "times" (defArgs s_times) (defBody s_times) (defScope s_times) .none kV8 dc8 pm8 an8 cd8 ct8), sl8⟩)
    (c8 : PySem.W.codeIn K cd8 "times" = true)
    (k8 : PySem.W.keepIn K (.ref f8) = true)
    (a9 : PySem.W.nsIn K mainGlobals "over" = some (some (.ref f9)))
    (l9 : K.lookup f9 = some ⟨oc9, od9, .func (PySem.W.fnOf "over" "over" (defArgs s_over) (defBody s_over) (defScope s_over) .none kV9 dc9 pm9 an9 cd9 ct9), sl9⟩)
    (c9 : PySem.W.codeIn K cd9 "over" = true)
    (k9 : PySem.W.keepIn K (.ref f9) = true)
    (a10 : PySem.W.nsIn K mainGlobals "below" = some (some (.ref f10)))
    (l10 : K.lookup f10 = some ⟨oc10, od10, .func (PySem.W.fnOf "below" "below" (defArgs s_below) (defBody s_below) (defScope s_below) .none kV10 dc10 pm10 an10 cd10 ct10), sl10⟩)
    (c10 : PySem.W.codeIn K cd10 "below" = true)
    (k10 : PySem.W.keepIn K (.ref f10) = true)
    (a11 : PySem.W.nsIn K mainGlobals "total" = some (some (.ref f11)))
    (l11 : K.lookup f11 = some ⟨oc11, od11, .func (PySem.W.fnOf "total" "total" (defArgs s_total) (defBody s_total) (defScope s_total) .none kV11 dc11 pm11 an11 cd11 ct11), sl11⟩)
    (c11 : PySem.W.codeIn K cd11 "total" = true)
    (k11 : PySem.W.keepIn K (.ref f11) = true)
    (a12 : PySem.W.nsIn K mainGlobals "lesser" = some (some (.ref f12)))
    (l12 : K.lookup f12 = some ⟨oc12, od12, .func (PySem.W.fnOf "lesser" "lesser" (defArgs s_lesser) (defBody s_lesser) (defScope s_lesser) .none kV12 dc12 pm12 an12 cd12 ct12), sl12⟩)
    (c12 : PySem.W.codeIn K cd12 "lesser" = true)
    (k12 : PySem.W.keepIn K (.ref f12) = true)
    (a13 : PySem.W.nsIn K mainGlobals "greater" = some (some (.ref f13)))
    (l13 : K.lookup f13 = some ⟨oc13, od13, .func (PySem.W.fnOf "greater" "greater" (defArgs s_greater) (defBody s_greater) (defScope s_greater) .none kV13 dc13 pm13 an13 cd13 ct13), sl13⟩)
    (c13 : PySem.W.codeIn K cd13 "greater" = true)
    (k13 : PySem.W.keepIn K (.ref f13) = true)
    (a14 : PySem.W.nsIn K mainGlobals "ratio_text" = some (some (.ref f14)))
    (l14 : K.lookup f14 = some ⟨oc14, od14, .func (PySem.W.fnOf "ratio_text" "ratio_text" (defArgs s_ratio_text) (defBody s_ratio_text) (defScope s_ratio_text) .none kV14 dc14 pm14 an14 cd14 ct14), sl14⟩)
    (c14 : PySem.W.codeIn K cd14 "ratio_text" = true)
    (k14 : PySem.W.keepIn K (.ref f14) = true)
    (a15 : PySem.W.nsIn K mainGlobals "read_ratio" = some (some (.ref f15)))
    (l15 : K.lookup f15 = some ⟨oc15, od15, .func (PySem.W.fnOf "read_ratio" "read_ratio" (defArgs s_read_ratio) (defBody s_read_ratio) (defScope s_read_ratio) .none kV15 dc15 pm15 an15 cd15 ct15), sl15⟩)
    (c15 : PySem.W.codeIn K cd15 "read_ratio" = true)
    (k15 : PySem.W.keepIn K (.ref f15) = true)
    (a16 : PySem.W.nsIn K mainGlobals "_law_draw" = some (some (.ref f16)))
    (l16 : K.lookup f16 = some ⟨oc16, od16, .func (PySem.W.fnOf "_law_draw" "_law_draw" (defArgs s__law_draw) (defBody s__law_draw) (defScope s__law_draw) .none kV16 dc16 pm16 an16 cd16 ct16), sl16⟩)
    (c16 : PySem.W.codeIn K cd16 "_law_draw" = true)
    (k16 : PySem.W.keepIn K (.ref f16) = true)
    (a17 : PySem.W.nsIn K mainGlobals "_law_take" = some (some (.ref f17)))
    (l17 : K.lookup f17 = some ⟨oc17, od17, .func (PySem.W.fnOf "_law_take" "_law_take" (defArgs s__law_take) (defBody s__law_take) (defScope s__law_take) .none kV17 dc17 pm17 an17 cd17 ct17), sl17⟩)
    (c17 : PySem.W.codeIn K cd17 "_law_take" = true)
    (k17 : PySem.W.keepIn K (.ref f17) = true)
    (a18 : PySem.W.nsIn K mainGlobals "_law_low" = some (some (.ref f18)))
    (l18 : K.lookup f18 = some ⟨oc18, od18, .func (PySem.W.fnOf "_law_low" "_law_low" (defArgs s__law_low) (defBody s__law_low) (defScope s__law_low) .none kV18 dc18 pm18 an18 cd18 ct18), sl18⟩)
    (c18 : PySem.W.codeIn K cd18 "_law_low" = true)
    (k18 : PySem.W.keepIn K (.ref f18) = true)
    (a19 : PySem.W.nsIn K mainGlobals "_law_number" = some (some (.ref f19)))
    (l19 : K.lookup f19 = some ⟨oc19, od19, .func (PySem.W.fnOf "_law_number" "_law_number" (defArgs s__law_number) (defBody s__law_number) (defScope s__law_number) .none kV19 dc19 pm19 an19 cd19 ct19), sl19⟩)
    (c19 : PySem.W.codeIn K cd19 "_law_number" = true)
    (k19 : PySem.W.keepIn K (.ref f19) = true)
    (a20 : PySem.W.nsIn K mainGlobals "_law_text" = some (some (.ref f20)))
    (l20 : K.lookup f20 = some ⟨oc20, od20, .func (PySem.W.fnOf "_law_text" "_law_text" (defArgs s__law_text) (defBody s__law_text) (defScope s__law_text) .none kV20 dc20 pm20 an20 cd20 ct20), sl20⟩)
    (c20 : PySem.W.codeIn K cd20 "_law_text" = true)
    (k20 : PySem.W.keepIn K (.ref f20) = true)
    (a21 : PySem.W.nsIn K mainGlobals "_law_read" = some (some (.ref f21)))
    (l21 : K.lookup f21 = some ⟨oc21, od21, .func (PySem.W.fnOf "_law_read" "_law_read" (defArgs s__law_read) (defBody s__law_read) (defScope s__law_read) .none kV21 dc21 pm21 an21 cd21 ct21), sl21⟩)
    (c21 : PySem.W.codeIn K cd21 "_law_read" = true)
    (k21 : PySem.W.keepIn K (.ref f21) = true)
    (a22 : PySem.W.nsIn K mainGlobals "_law_ask" = some (some (.ref f22)))
    (l22 : K.lookup f22 = some ⟨oc22, od22, .func (PySem.W.fnOf "_law_ask" "_law_ask" (defArgs s__law_ask) (defBody s__law_ask) (defScope s__law_ask) .none kV22 dc22 pm22 an22 cd22 ct22), sl22⟩)
    (c22 : PySem.W.codeIn K cd22 "_law_ask" = true)
    (k22 : PySem.W.keepIn K (.ref f22) = true)
    (a23 : PySem.W.nsIn K mainGlobals "_law_digits" = some (some (.ref f23)))
    (l23 : K.lookup f23 = some ⟨oc23, od23, .func (PySem.W.fnOf "_law_digits" "_law_digits" (defArgs s__law_digits) (defBody s__law_digits) (defScope s__law_digits) .none kV23 dc23 pm23 an23 cd23 ct23), sl23⟩)
    (c23 : PySem.W.codeIn K cd23 "_law_digits" = true)
    (k23 : PySem.W.keepIn K (.ref f23) = true)
    (a24 : PySem.W.nsIn K mainGlobals "_law_good_whole" = some (some (.ref f24)))
    (l24 : K.lookup f24 = some ⟨oc24, od24, .func (PySem.W.fnOf "_law_good_whole" "_law_good_whole" (defArgs s__law_good_whole) (defBody s__law_good_whole) (defScope s__law_good_whole) .none kV24 dc24 pm24 an24 cd24 ct24), sl24⟩)
    (c24 : PySem.W.codeIn K cd24 "_law_good_whole" = true)
    (k24 : PySem.W.keepIn K (.ref f24) = true)
    (a25 : PySem.W.nsIn K mainGlobals "_law_good_ratio" = some (some (.ref f25)))
    (l25 : K.lookup f25 = some ⟨oc25, od25, .func (PySem.W.fnOf "_law_good_ratio" "_law_good_ratio" (defArgs s__law_good_ratio) (defBody s__law_good_ratio) (defScope s__law_good_ratio) .none kV25 dc25 pm25 an25 cd25 ct25), sl25⟩)
    (c25 : PySem.W.codeIn K cd25 "_law_good_ratio" = true)
    (k25 : PySem.W.keepIn K (.ref f25) = true)
    (a26 : PySem.W.nsIn K mainGlobals "law" = some (some (.ref f26)))
    (l26 : K.lookup f26 = some ⟨oc26, od26, .func (PySem.W.fnOf "law" "law" (defArgs s_law) (defBody s_law) (defScope s_law) .none kV26 dc26 pm26 an26 cd26 ct26), sl26⟩)
    (c26 : PySem.W.codeIn K cd26 "law" = true)
    (k26 : PySem.W.keepIn K (.ref f26) = true)
    (b_abs : PySem.W.nsIn K mainGlobals "abs" = some none)
    (b_all : PySem.W.nsIn K mainGlobals "all" = some none)
    (b_bool : PySem.W.nsIn K mainGlobals "bool" = some none)
    (b_int : PySem.W.nsIn K mainGlobals "int" = some none)
    (b_isinstance : PySem.W.nsIn K mainGlobals "isinstance" = some none)
    (b_len : PySem.W.nsIn K mainGlobals "len" = some none)
    (b_range : PySem.W.nsIn K mainGlobals "range" = some none)
    (b_repr : PySem.W.nsIn K mainGlobals "repr" = some none)
    (b_str : PySem.W.nsIn K mainGlobals "str" = some none)
    (b_tuple : PySem.W.nsIn K mainGlobals "tuple" = some none)
    (g_MOST_DIGITS : PySem.W.nsIn K mainGlobals "MOST_DIGITS" = some (some (.int 4000 t_MOST_DIGITS)))
    (g_DIGITS : PySem.W.nsIn K mainGlobals "DIGITS" = some (some (.str "0123456789" t_DIGITS)))
    (g_ZERO : PySem.W.nsIn K mainGlobals "ZERO" = some (some (.ref p_ZERO)))
    (h_ZERO : K.lookup p_ZERO = some ⟨.type "tuple", o_ZERO, .seq #[.int 0 t_ZERO0, .int 1 t_ZERO1] n_ZERO, y_ZERO⟩)
    (xg0 : PySem.W.nsIn K mainGlobals "Malformed" = some (some (.ref C0)))
    (xk0 : PySem.W.keepIn K (.ref C0) = true)
    (xs0 : PySem.W.subIn K (.ref C0) (.type "BaseException") = some true)
    (xi0 : PySem.W.isClsIn K C0 = true)
    (xt0 : PySem.W.typeIn K (.ref C0) = some (.type "type"))
    (xc0 : PySem.W.excIn K C0 [.type "ValueError", .type "Exception", .type "BaseException", .type "object"] "ValueError.__new__" = true)
    (xg1 : PySem.W.nsIn K mainGlobals "NoText" = some (some (.ref C1)))
    (xk1 : PySem.W.keepIn K (.ref C1) = true)
    (xs1 : PySem.W.subIn K (.ref C1) (.type "BaseException") = some true)
    (xi1 : PySem.W.isClsIn K C1 = true)
    (xt1 : PySem.W.typeIn K (.ref C1) = some (.type "type"))
    (xl1 : K.lookup C1 = some (excClassObj nm1 qn1 C1 N1 bs1 [.ref CB1, .type "ValueError", .type "Exception", .type "BaseException", .type "object"] true sn1 sub1 ab1 col1 dd1 m0_1 m1_1 m2_1 m3_1 m5_1 "ValueError.__new__"))
    (isa1 : PySem.W.findIn K (.ref C1) "__setattr__" = some (some (.builtin "object.__setattr__")))
    (iga1 : PySem.W.findIn K (.ref C1) "__getattribute__" = some (some (.builtin "BaseException.__getattribute__")))
    (igg1 : PySem.W.findIn K (.ref C1) "__getattr__" = some none)
    (inf1 : PySem.W.findIn K (.ref C1) "at" = some none)
    (ihd1 : PySem.W.hasDictIn K C1 = true)
    (ii1 : PySem.W.findIn K (.ref C1) "__init__" = some (some (.ref fi1)))
    (it1 : PySem.W.typeIn K (.ref fi1) = some (.type "function"))
    (il1 : K.lookup fi1 = some ⟨ioc1, iod1, .func (PySem.W.ksFn "__init__" "NoText.__init__" (defArgs s_init_NoText) (defBody s_init_NoText) (defScope s_init_NoText) .none .none idc1 ipm1 ian1 (.ref cda1) ict1 cc1), isl1⟩)
    (ic1 : PySem.W.codeIn K (.ref cda1) "NoText.__init__" = true)
    (id1 : K.lookup cda1 = some ⟨iccl1, icdd1, .fields ivs1, iccs1⟩)
    (iv1 : ivs1[2]? = some (.str ifile1 itf1))
    (if1 : ((P.main.file : Str) == ifile1) = true)
    (ik1 : K.lookup cc1 = some ⟨icl1, icld1, .cell (some (.ref C1)), icsl1⟩)
    (io1 : (P.main.scope.names.lookup ("super" : Str)).isSome = false)
    (iq1 : PySem.W.nsIn K PySem.cStatics "thirdparty.any" = some none)
    (is1 : PySem.W.ks_superIn K C1 C1 "__init__" = some (some (.builtin "ValueError.__init__")))
    (ib1 : PySem.W.subIn K (.ref C1) (.type "ValueError") = some true)
    (im1 : PySem.W.mroIn K C1 (.ref C1) = some true)
    (iz1 : PySem.W.nsIn K mainGlobals "super" = some none)
    (xx0_0 : PySem.W.subIn K (.ref C0) (.ref C0) = some true)
    (xx1_0 : PySem.W.subIn K (.ref C1) (.ref C0) = some false)
    (xx0_1 : PySem.W.subIn K (.ref C0) (.ref C1) = some false)
    (xx1_1 : PySem.W.subIn K (.ref C1) (.ref C1) = some true) :
    ∃ (fd : FuncData) (fa ca : Nat → Addr) (an : Nat → Str), (∀ (s : Shared) (u : Value), BindsTo s fd ⟨[u], []⟩ [("script", u)]) ∧ ∀ base : Heap, K.In base → base.Ns mainGlobals mg → FnG P w K mg base DEPTH fl fd ["script"] (spC (ctD DF K fa ca an DEPTH) 26) := by
  have e := hfl.symm.trans (PySem.W.mg_of X G a26)
  cases e
  let fa : Nat → Addr := fun j => match j with | 0 => f0 | 1 => f1 | 2 => f2 | 3 => f3 | 4 => f4 | 5 => f5 | 6 => f6 | 7 => f7 | 8 => f8 | 9 => f9 | 10 => f10 | 11 => f11 | 12 => f12 | 13 => f13 | 14 => f14 | 15 => f15 | 16 => f16 | 17 => f17 | 18 => f18 | 19 => f19 | 20 => f20 | 21 => f21 | 22 => f22 | 23 => f23 | 24 => f24 | 25 => f25 | 26 => fl | _ => f0
  let ca : Nat → Addr := fun j => match j with | 0 => C0 | _ => C1
  have T : Txt P w K mg fa ca := { m_abs := PySem.W.mg_none_of X G b_abs, m_all := PySem.W.mg_none_of X G b_all, m_bool := PySem.W.mg_none_of X G b_bool, m_int := PySem.W.mg_none_of X G b_int, m_isinstance := PySem.W.mg_none_of X G b_isinstance, m_len := PySem.W.mg_none_of X G b_len, m_range := PySem.W.mg_none_of X G b_range, m_repr := PySem.W.mg_none_of X G b_repr, m_str := PySem.W.mg_none_of X G b_str, m_tuple := PySem.W.mg_none_of X G b_tuple, c_MOST_DIGITS := gc_int (PySem.W.mg_of X G g_MOST_DIGITS), c_DIGITS := gc_str (PySem.W.mg_of X G g_DIGITS), c_ZERO := gc_tup (vs := [.int 0, .int 1]) (PySem.W.mg_of X G g_ZERO) h_ZERO (.cons ⟨_, rfl⟩ (.cons ⟨_, rfl⟩ .nil)) (fun H => (.cons (.int _) (.cons (.int _) .nil))) (sz_ge (by simp)), c_read_ratio := gc_fn (PySem.W.mg_of X G a15), c_read_whole := gc_fn (PySem.W.mg_of X G a1), c_over := gc_fn (PySem.W.mg_of X G a9), c_ratio := gc_fn (PySem.W.mg_of X G a4), x_Malformed := ⟨PySem.W.mg_of X G xg0, xc0, xk0, xs0, xt0⟩, sub_Malformed := fun j => match j with | 0 => exm_of xs0 xi0 xt0 xi0 xt0 xx0_0 | n + 1 => (by have e : DF.sub (n + 1) 0 = DF.sub 1 0 := (by simp [DF]); rw [e]; exact exm_of xs0 xi1 xt1 xi0 xt0 xx1_0), x_NoText := ⟨PySem.W.mg_of X G xg1, ⟨iga1, igg1, xs1, ihd1⟩, xk1, xs1, xt1, PySem.W.mg_none_of X G iz1, fi1, cda1, cc1, "at", "NoText.__init__", init_e_NoText, ⟨⟨8, 17, 8, 21⟩, ⟨8, 23, 8, 25⟩, ⟨9, 8, 9, 13⟩, ⟨9, 8, 9, 15⟩, ⟨9, 8, 9, 24⟩, ⟨9, 8, 9, 41⟩, ⟨9, 8, 9, 41⟩, ⟨10, 8, 10, 12⟩, ⟨10, 8, 10, 15⟩, ⟨10, 18, 10, 20⟩, ⟨10, 8, 10, 20⟩⟩, defScope s_init_NoText, { cls := ⟨_, _, _, _, _, _, _, _, _, _, _, _, _, _, _, xl1, by first | rfl | simp [PySem.HandSPX.refsVE]⟩, sa := isa1, noF := inf1, iC := ii1, tI := it1, fn := ⟨_, _, _, _, _, _, _, il1, ic1⟩, code := ⟨_, _, _, _, _, _, id1, iv1, if1⟩, cell := ⟨_, _, _, ik1⟩, top := io1, opq := iq1, sup := is1, subB := ib1, mroC := im1, scp := ⟨rfl, rfl, rfl, by first | rfl | decide +kernel, by first | rfl | decide +kernel, by first | rfl | decide +kernel, by first | rfl | decide +kernel⟩, nocell := by decide +kernel, pnz := ⟨by decide, by decide⟩, bnd := fun _ _ _ _ _ _ => rfl, evc := fun _ => ⟨_, rfl⟩, int := fun _ => rfl, sw := fun _ => rfl, star := fun _ => rfl }, ev_cat (PySem.W.mg_none_of X G b_str) rfl (by first | rfl | decide +kernel) (by first | rfl | decide +kernel) (by decide) (by decide) (fun _ => rfl)⟩, sub_NoText := fun j => match j with | 0 => exm_of xs1 xi0 xt0 xi1 xt1 xx0_1 | n + 1 => (by have e : DF.sub (n + 1) 1 = DF.sub 1 1 := (by simp [DF]); rw [e]; exact exm_of xs1 xi1 xt1 xi1 xt1 xx1_1), sk_NoText := fun j => match j with | 0 => fun h => absurd h (by decide) | n + 1 => fun _ => ⟨rfl, rfl⟩ }
  have F0 := fun_mk (st := s_is_whole) l0 c0 k0
  have F1 := fun_mk (st := s_read_whole) l1 c1 k1
  have F2 := fun_mk (st := s_common) l2 c2 k2
  have F3 := fun_mk (st := s_lowest) l3 c3 k3
  have F4 := fun_mk (st := s_ratio) l4 c4 k4
  have F5 := fun_mk (st := s_is_ratio) l5 c5 k5
  have F6 := fun_mk (st := s_plus) l6 c6 k6
  have F7 := fun_mk (st := s_minus) l7 c7 k7
  have F8 := fun_mk (st := s_times) l8 c8 k8
  have F9 := fun_mk (st := s_over) l9 c9 k9
  have F10 := fun_mk (st := s_below) l10 c10 k10
  have F11 := fun_mk (st := s_total) l11 c11 k11
  have F12 := fun_mk (st := s_lesser) l12 c12 k12
  have F13 := fun_mk (st := s_greater) l13 c13 k13
  have F14 := fun_mk (st := s_ratio_text) l14 c14 k14
  have F15 := fun_mk (st := s_read_ratio) l15 c15 k15
  have F16 := fun_mk (st := s__law_draw) l16 c16 k16
  have F17 := fun_mk (st := s__law_take) l17 c17 k17
  have F18 := fun_mk (st := s__law_low) l18 c18 k18
  have F19 := fun_mk (st := s__law_number) l19 c19 k19
  have F20 := fun_mk (st := s__law_text) l20 c20 k20
  have F21 := fun_mk (st := s__law_read) l21 c21 k21
  have F22 := fun_mk (st := s__law_ask) l22 c22 k22
  have F23 := fun_mk (st := s__law_digits) l23 c23 k23
  have F24 := fun_mk (st := s__law_good_whole) l24 c24 k24
  have F25 := fun_mk (st := s__law_good_ratio) l25 c25 k25
  have F26 := fun_mk (st := s_law) l26 c26 k26
  have D : Dfs K mg fa := ⟨⟨_, ⟨PySem.W.mg_of X G a0, k0, F0.binds (ps := ["value"]) fun _ _ _ _ _ _ us hl => match us, hl with | [_], _ => rfl⟩, F0⟩, ⟨_, ⟨PySem.W.mg_of X G a1, k1, F1.binds (ps := ["text"]) fun _ _ _ _ _ _ us hl => match us, hl with | [_], _ => rfl⟩, F1⟩, ⟨_, ⟨PySem.W.mg_of X G a2, k2, F2.binds (ps := ["a", "b"]) fun _ _ _ _ _ _ us hl => match us, hl with | [_, _], _ => rfl⟩, F2⟩, ⟨_, ⟨PySem.W.mg_of X G a3, k3, F3.binds (ps := ["n", "d"]) fun _ _ _ _ _ _ us hl => match us, hl with | [_, _], _ => rfl⟩, F3⟩, ⟨_, ⟨PySem.W.mg_of X G a4, k4, F4.binds (ps := ["n", "d"]) fun _ _ _ _ _ _ us hl => match us, hl with | [_, _], _ => rfl⟩, F4⟩, ⟨_, ⟨PySem.W.mg_of X G a5, k5, F5.binds (ps := ["value"]) fun _ _ _ _ _ _ us hl => match us, hl with | [_], _ => rfl⟩, F5⟩, ⟨_, ⟨PySem.W.mg_of X G a6, k6, F6.binds (ps := ["a", "b"]) fun _ _ _ _ _ _ us hl => match us, hl with | [_, _], _ => rfl⟩, F6⟩, ⟨_, ⟨PySem.W.mg_of X G a7, k7, F7.binds (ps := ["a", "b"]) fun _ _ _ _ _ _ us hl => match us, hl with | [_, _], _ => rfl⟩, F7⟩, ⟨_, ⟨PySem.W.mg_of X G a8, k8, F8.binds (ps := ["a", "b"]) fun _ _ _ _ _ _ us hl => match us, hl with | [_, _], _ => rfl⟩, F8⟩, ⟨_, ⟨PySem.W.mg_of X G a9, k9, F9.binds (ps := ["a", "b"]) fun _ _ _ _ _ _ us hl => match us, hl with | [_, _], _ => rfl⟩, F9⟩, ⟨_, ⟨PySem.W.mg_of X G a10, k10, F10.binds (ps := ["a", "b"]) fun _ _ _ _ _ _ us hl => match us, hl with | [_, _], _ => rfl⟩, F10⟩, ⟨_, ⟨PySem.W.mg_of X G a11, k11, F11.binds (ps := ["items"]) fun _ _ _ _ _ _ us hl => match us, hl with | [_], _ => rfl⟩, F11⟩, ⟨_, ⟨PySem.W.mg_of X G a12, k12, F12.binds (ps := ["a", "b"]) fun _ _ _ _ _ _ us hl => match us, hl with | [_, _], _ => rfl⟩, F12⟩, ⟨_, ⟨PySem.W.mg_of X G a13, k13, F13.binds (ps := ["a", "b"]) fun _ _ _ _ _ _ us hl => match us, hl with | [_, _], _ => rfl⟩, F13⟩, ⟨_, ⟨PySem.W.mg_of X G a14, k14, F14.binds (ps := ["a"]) fun _ _ _ _ _ _ us hl => match us, hl with | [_], _ => rfl⟩, F14⟩, ⟨_, ⟨PySem.W.mg_of X G a15, k15, F15.binds (ps := ["text"]) fun _ _ _ _ _ _ us hl => match us, hl with | [_], _ => rfl⟩, F15⟩, ⟨_, ⟨PySem.W.mg_of X G a16, k16, F16.binds (ps := ["script"]) fun _ _ _ _ _ _ us hl => match us, hl with | [_], _ => rfl⟩, F16⟩, ⟨_, ⟨PySem.W.mg_of X G a17, k17, F17.binds (ps := ["draw", "many"]) fun _ _ _ _ _ _ us hl => match us, hl with | [_, _], _ => rfl⟩, F17⟩, ⟨_, ⟨PySem.W.mg_of X G a18, k18, F18.binds (ps := ["n", "d"]) fun _ _ _ _ _ _ us hl => match us, hl with | [_, _], _ => rfl⟩, F18⟩, ⟨_, ⟨PySem.W.mg_of X G a19, k19, F19.binds (ps := ["draw"]) fun _ _ _ _ _ _ us hl => match us, hl with | [_], _ => rfl⟩, F19⟩, ⟨_, ⟨PySem.W.mg_of X G a20, k20, F20.binds (ps := ["value"]) fun _ _ _ _ _ _ us hl => match us, hl with | [_], _ => rfl⟩, F20⟩, ⟨_, ⟨PySem.W.mg_of X G a21, k21, F21.binds (ps := ["which", "text"]) fun _ _ _ _ _ _ us hl => match us, hl with | [_, _], _ => rfl⟩, F21⟩, ⟨_, ⟨PySem.W.mg_of X G a22, k22, F22.binds (ps := ["which", "one", "two"]) fun _ _ _ _ _ _ us hl => match us, hl with | [_, _, _], _ => rfl⟩, F22⟩, ⟨_, ⟨PySem.W.mg_of X G a23, k23, F23.binds (ps := ["text"]) fun _ _ _ _ _ _ us hl => match us, hl with | [_], _ => rfl⟩, F23⟩, ⟨_, ⟨PySem.W.mg_of X G a24, k24, F24.binds (ps := ["text"]) fun _ _ _ _ _ _ us hl => match us, hl with | [_], _ => rfl⟩, F24⟩, ⟨_, ⟨PySem.W.mg_of X G a25, k25, F25.binds (ps := ["text"]) fun _ _ _ _ _ _ us hl => match us, hl with | [_], _ => rfl⟩, F25⟩, ⟨_, ⟨PySem.W.mg_of X G a26, k26, F26.binds (ps := ["script"]) fun _ _ _ _ _ _ us hl => match us, hl with | [_], _ => rfl⟩, F26⟩⟩
  exact ⟨_, fa, ca, an, fun s v => .of_eq rfl, fun base _ _ => ok_law T (fs_all T D (DEPTH - 1)) F26⟩

end Lw

set_option Elab.async false
set_option linter.all false
set_option maxRecDepth 100000
namespace Lw
open PySem L2 Eng
/-! ### a def's run from its body's -/
theorem run_ret {T : Tab} {np n : Nat} {body : IS} {ar ar' e : Sls} {r : RV} (hl : ar.length = np) (h : exS T body (ar ++ List.replicate (n - ar.length) .un) = .ret r e) (hb : backA ar e = some ar') : runB T np n body ar = .ok r ar' := by
  unfold runB
  rw [if_neg (by simp [hl]), h]
  simp only [hb]
theorem run_exc {T : Tab} {np n : Nat} {body : IS} {ar ar' e : Sls} {x : Exn} (hl : ar.length = np) (h : exS T body (ar ++ List.replicate (n - ar.length) .un) = .exc x e) (hb : backA ar e = some ar') : runB T np n body ar = .exc x ar' := by
  unfold runB
  rw [if_neg (by simp [hl]), h]
  simp only [hb]
theorem ret_of {d k : Nat} {ar ar' e : Sls} {r : RV} (np n : Nat) (ir : IS) (h1 : DF.np k = np) (h2 : DF.n k = n) (h3 : DF.ir k = ir) (hl : ar.length = np) (h : exS (tabD DF d) ir (ar ++ List.replicate (n - ar.length) .un) = .ret r e) (hb : backA ar e = some ar') : runD DF (d + 1) k ar = .ok r ar' := by
  rw [run_succ, h1, h2, h3]
  exact run_ret hl h hb
theorem exc_of {d k : Nat} {ar ar' e : Sls} {x : Exn} (np n : Nat) (ir : IS) (h1 : DF.np k = np) (h2 : DF.n k = n) (h3 : DF.ir k = ir) (hl : ar.length = np) (h : exS (tabD DF d) ir (ar ++ List.replicate (n - ar.length) .un) = .exc x e) (hb : backA ar e = some ar') : runD DF (d + 1) k ar = .exc x ar' := by
  rw [run_succ, h1, h2, h3]
  exact run_exc hl h hb
theorem putT_n (i : Nat) (d : D) (e : Sls) : Tg.put (.n i) d e = putN i d e := by simp only [Tg.put]
theorem putT_t (l : List Tg) (ds : List D) (e : Sls) : Tg.put (.t l) (.tup ds) e = Tg.puts l ds e := by simp only [Tg.put]
theorem puts_nil (e : Sls) : Tg.puts [] [] e = some e := by simp only [Tg.puts]
theorem puts_cons (g : Tg) (l : List Tg) (d : D) (ds : List D) (e : Sls) : Tg.puts (g :: l) (d :: ds) e = (Tg.put g d e).bind fun e' => Tg.puts l ds e' := by simp only [Tg.puts]
/-- a slot that may be given a value -/
def pt (s : Slo) (r : Sls) : Option Sls := match s with
  | .mt true _ => none
  | _ => some r
theorem putN_pt (i : Nat) (d : D) (e : Sls) : putN i d e = (e[i]?).bind fun s => pt s (e.set i (.val d)) := by
  unfold putN
  cases h : e[i]? with
  | none => rfl
  | some s => cases s with
    | mt p c => cases p <;> rfl
    | _ => rfl
theorem stR_v (i : Nat) (d : D) (e : Sls) : stR i (.v d) e = (e[i]?).bind fun s => pt s (e.set i (.val d)) := by
  unfold stR
  cases h : e[i]? with
  | none => rfl
  | some s => cases s with
    | mt p c => cases p <;> rfl
    | _ => rfl
theorem stR_f (i : Nat) (c : MC) (e : Sls) : stR i (.fr c) e = (e[i]?).bind fun s => pt s (e.set i (.mt false c)) := by
  unfold stR
  cases h : e[i]? with
  | none => rfl
  | some s => cases s with
    | mt p c => cases p <;> rfl
    | _ => rfl
theorem pt_un (r : Sls) : pt .un r = some r := rfl
theorem pt_val (d : D) (r : Sls) : pt (.val d) r = some r := rfl
theorem pt_f (c : MC) (r : Sls) : pt (.mt false c) r = some r := rfl
def Fre (s : Slo) : Prop := s = .un ∨ ∃ d, s = .val d
theorem Fre.pt {s : Slo} (h : Fre s) : ∀ r, pt s r = some r := fun r => by
  rcases h with rfl | ⟨d, rfl⟩ <;> rfl
theorem Fre.nm {s : Slo} (h : Fre s) : ∀ p c, s ≠ .mt p c := fun p c => by
  rcases h with rfl | ⟨d, rfl⟩ <;> (intro z; cases z)
theorem fre_un : Fre .un := .inl rfl
theorem fre_val (d : D) : Fre (.val d) := .inr ⟨d, rfl⟩
theorem tab_runE (D : Defs) (d : Nat) : (tabD D d).run = runD D d := rfl
/-! ### small facts -/
def rD (p : Int × Int) : D := .tup [.int p.1, .int p.2]
theorem eqv_int (i j : Int) : (D.int i).eqv (.int j) = decide (i = j) := by
  show (i == j) = _
  by_cases h : i = j <;> simp [h]
theorem eqv_r (p q : Int × Int) : (rD p).eqv (rD q) = decide (p = q) := by
  show ((p.1 == q.1) && ((p.2 == q.2) && true)) = _
  by_cases h1 : p.1 = q.1 <;> by_cases h2 : p.2 = q.2 <;> simp [h1, h2, Prod.ext_iff]
theorem e_int (i j : Int) : pEq [.int i, .int j] = some (.bl (decide (i = j))) := by rw [← eqv_int]; rfl
theorem n_int (i j : Int) : pNe [.int i, .int j] = some (.bl (!decide (i = j))) := by rw [← eqv_int]; rfl
theorem e_str (i j : Str) : pEq [.str i, .str j] = some (.bl (i == j)) := rfl
theorem n_str (i j : Str) : pNe [.str i, .str j] = some (.bl (!(i == j))) := rfl
theorem e_r (p q : Int × Int) : pEq [rD p, rD q] = some (.bl (decide (p = q))) := by rw [← eqv_r]; rfl
theorem n_r (p q : Int × Int) : pNe [rD p, rD q] = some (.bl (!decide (p = q))) := by rw [← eqv_r]; rfl
theorem mul_ok {i j : Int} (h : okMul i j = true) : pMul [.int i, .int j] = some (.int (i * j)) := by simp [pMul, h]
theorem div_ok {i j : Int} (h : okDiv j = true) : pDiv [.int i, .int j] = some (.int (i.fdiv j)) := by simp [pDiv, h]
theorem mod_ok {i j : Int} (h : j ≠ 0) : pMod [.int i, .int j] = some (.int (i.fmod j)) := by simp [pMod, h]
/-- bounds by powers of two -/
def Bd (k : Nat) (i : Int) : Prop := i.natAbs < 2 ^ k
theorem Bd.mono {k l : Nat} {i : Int} (h : Bd k i) (hl : k ≤ l) : Bd l i := Nat.lt_of_lt_of_le h (Nat.pow_le_pow_right (by omega) hl)
theorem Bd.mul {k l : Nat} {i j : Int} (h : Bd k i) (h2 : Bd l j) : Bd (k + l) (i * j) := by
  unfold Bd at *
  rw [Int.natAbs_mul, Nat.pow_add]
  exact Nat.mul_lt_mul'' h h2
theorem Bd.add {k : Nat} {i j : Int} (h : Bd k i) (h2 : Bd k j) : Bd (k + 1) (i + j) := by
  unfold Bd at *
  rw [Nat.pow_succ]
  omega
theorem Bd.sub {k : Nat} {i j : Int} (h : Bd k i) (h2 : Bd k j) : Bd (k + 1) (i - j) := by
  unfold Bd at *
  rw [Nat.pow_succ]
  omega
theorem Bd.log {k : Nat} {i : Int} (h : Bd k i) : i.natAbs.log2 ≤ k := by
  unfold Bd at h
  by_cases h0 : i.natAbs = 0
  · rw [h0]; simp
  · exact Nat.le_of_lt ((Nat.log2_lt h0).mpr h)
theorem Bd.okM {k l : Nat} {i j : Int} (h : Bd k i) (h2 : Bd l j) (hk : k + l < 1000000) : okMul i j = true := by
  unfold okMul
  have := h.log
  have := h2.log
  exact decide_eq_true (by omega)
theorem Bd.okD {k : Nat} {j : Int} (h : Bd k j) (h0 : j ≠ 0) (hk : k < 9000) : okDiv j = true := by
  unfold okDiv
  have := h.log
  rw [decide_eq_true h0, decide_eq_true (show j.natAbs.log2 < 9000 by omega)]
  rfl
theorem Bd.okS {k : Nat} {j : Int} (h : Bd k j) (hk : k < 1920) : okStr j = true := by
  unfold okStr
  have := h.log
  exact decide_eq_true (by omega)
theorem Bd.fuel {k : Nat} {j : Int} (h : Bd k j) (hk : k ≤ 100000) : j.natAbs < FUEL := Nat.lt_of_lt_of_le h (fuel_le hk)
theorem Bd.fdiv {k : Nat} {i : Int} (h : Bd k i) (g : Int) (hg : 0 < g) : Bd k (i.fdiv g) := by
  unfold Bd at *
  rw [Int.fdiv_eq_ediv_of_nonneg _ (by omega)]
  exact Nat.lt_of_le_of_lt (Int.natAbs_ediv_le_natAbs i g) h
/-! ### gcd -/
theorem wh_gcd {t : Sls → Out D} {b : Sls → SO} (mk : Int → Int → Sls) (ht : ∀ x y, t (mk x y) = .ok (.bl (!decide (y = 0))) (mk x y)) (hb : ∀ x y, y ≠ 0 → b (mk x y) = .nx (mk y (x.fmod y))) :
    ∀ (n x y : Nat), y < n → evWh t b n (mk (x : Int) (y : Int)) = .nx (mk (Nat.gcd y x : Nat) 0)
  | 0, x, y, h => absurd h (Nat.not_lt_zero _)
  | n + 1, x, y, h => by
    unfold evWh
    rw [ht]
    by_cases hy : y = 0
    · subst hy
      simp [Out.so, SO.ifb]
    · have h1 : ((y : Int) = 0) = False := by simp [hy]
      have hb' := hb x y (by omega)
      have e : ((x : Int).fmod (y : Int)) = ((x % y : Nat) : Int) := by
        rw [Int.fmod_eq_emod_of_nonneg _ (by omega)]
        simp
      simp only [Out.so, SO.ifb, h1, decide_false, Bool.not_false, hb', SO.loop, e]
      have lt : x % y < n := Nat.lt_of_lt_of_le (Nat.mod_lt _ (by omega)) (by omega)
      rw [wh_gcd mk ht hb n y (x % y) lt, ← Nat.gcd_rec y x]
/-- is_whole -/
def D.isW : D → Bool
  | .int _ => true
  | _ => false
def D.noF : D → Bool
  | .fn _ => false
  | _ => true
theorem whole (d : Nat) (v : D) (h : D.noF v = true) : runD DF (d + 1) 0 [.val v] = .ok (.v (.bl (D.isW v))) [.val v] := by
  cases v <;> first
    | rfl
    | cases h
def gcdI (a b : Int) : Int := (Nat.gcd b.natAbs a.natAbs : Nat)
theorem common (d : Nat) (a b : Int) (h : b.natAbs < FUEL) : runD DF (d + 1) 2 [.val (.int a), .val (.int b)] = .ok (.v (.int (gcdI a b))) [.val (.int a), .val (.int b)] := by
  have w := wh_gcd (t := fun e => ev (tabD DF d) (.prim pNe (.cons (.v 1) (.cons (.c (.int 0)) .nil))) e) (b := fun e => exS (tabD DF d) (.par 0 1 (.val (.v 1)) (.val (.prim pMod (.cons (.v 0) (.cons (.v 1) .nil))))) e)
    (fun x y => [.val (.int x), .val (.int y)]) (fun x y => by
      show (Out.opt (pNe [.int y, .int 0]) _ : Out D) = _
      rw [n_int]
      rfl) (fun x y hy => by
      show (Out.bind (Out.opt (pMod [.int x, .int y]) _) fun (d : D) e1 => Out.ok (RV.v d) e1).so _ = _
      rw [mod_ok hy]
      rfl) FUEL a.natAbs b.natAbs h
  have hw : exS (tabD DF d) (.while (.prim pNe (.cons (.v 1) (.cons (.c (.int 0)) .nil))) (.par 0 1 (.val (.v 1)) (.val (.prim pMod (.cons (.v 0) (.cons (.v 1) .nil)))))) [.val (.int a.natAbs), .val (.int b.natAbs)] = .nx [.val (.int (gcdI a b)), .val (.int 0)] := w
  refine run_ret rfl (e := [.val (.int (gcdI a b)), .val (.int 0)]) ?_ rfl
  show (SO.seq (exS (tabD DF d) (.while (.prim pNe (.cons (.v 1) (.cons (.c (.int 0)) .nil))) (.par 0 1 (.val (.v 1)) (.val (.prim pMod (.cons (.v 0) (.cons (.v 1) .nil)))))) [.val (.int a.natAbs), .val (.int b.natAbs)]) fun e1 => exS (tabD DF d) (.ret (.val (.v 0))) e1) = _
  rw [hw]
  rfl
/-- in lowest terms -/
def low (n d : Int) : Int × Int := if d < 0 then ((-n).fdiv (gcdI n d), (-d).fdiv (gcdI n d)) else (n.fdiv (gcdI n d), d.fdiv (gcdI n d))
end Lw

set_option Elab.async false
set_option linter.all false
set_option maxRecDepth 100000
namespace Lw
open PySem L2 Eng
theorem gcdI_pos {n d : Int} (h : d ≠ 0) : 0 < gcdI n d := by
  unfold gcdI
  have := Nat.gcd_pos_of_pos_left n.natAbs (show 0 < d.natAbs by omega)
  omega
theorem gcdI_bd {n d : Int} {k : Nat} (h : d ≠ 0) (hd : Bd k d) : Bd k (gcdI n d) := by
  unfold gcdI Bd at *
  have := Nat.gcd_le_left n.natAbs (show 0 < d.natAbs by omega)
  omega
theorem fdiv_negR (a b : Int) : a.fdiv (-b) = (-a).fdiv b := by
  have := Int.neg_fdiv_neg (-a) b
  rw [Int.neg_neg] at this
  exact this
theorem lowest (k : Nat) (n d : Int) (h : d ≠ 0) (hd : Bd 8000 d) : runD DF (k + 2) 3 [.val (.int n), .val (.int d)] = .ok (.v (rD (low n d))) [.val (.int n), .val (.int d)] := by
  have hg := gcdI_pos (n := n) h
  have hgb := gcdI_bd (n := n) h hd
  have hc := common k n d (hd.fuel (by omega))
  have d1 : okDiv (gcdI n d) = true := hgb.okD (by omega) (by omega)
  have d2 : okDiv (-gcdI n d) = true := Bd.okD (k := 8000) (by unfold Bd at *; omega) (by omega) (by omega)
  by_cases hn : d < 0
  · refine ret_of (e := [.val (.int n), .val (.int d), .val (.int (-gcdI n d))]) 2 3 ir_lowest rfl rfl rfl rfl ?_ rfl
    simp [exS, evr, ev, evs, eva, evi, rdV, callF, mkArgs, mkArg, isS, noTwice, putBack, Out.bind, Out.so, Out.opt, SO.seq, SO.opt, SO.ifb, putT_n, putT_t, puts_nil, puts_cons, putN_pt, stR_v, stR_f, pt_un, pt_val, pt_f, tab_runE, RV.d, List.replicate, ir_lowest, hc, pLt, pNeg, pTup, div_ok d1, div_ok d2, hn, rD, low, fdiv_negR]
  · refine ret_of (e := [.val (.int n), .val (.int d), .val (.int (gcdI n d))]) 2 3 ir_lowest rfl rfl rfl rfl ?_ rfl
    simp [exS, evr, ev, evs, eva, evi, rdV, callF, mkArgs, mkArg, isS, noTwice, putBack, Out.bind, Out.so, Out.opt, SO.seq, SO.opt, SO.ifb, putT_n, putT_t, puts_nil, puts_cons, putN_pt, stR_v, stR_f, pt_un, pt_val, pt_f, tab_runE, RV.d, List.replicate, ir_lowest, hc, pLt, pNeg, pTup, div_ok d1, div_ok d2, hn, rD, low, fdiv_negR]
theorem law_low (k : Nat) (n d : Int) (h : d ≠ 0) (hd : Bd 8000 d) : runD DF (k + 1) 18 [.val (.int n), .val (.int d)] = .ok (.v (rD (low n d))) [.val (.int n), .val (.int d)] := by
  have hg := gcdI_pos (n := n) h
  have hgb := gcdI_bd (n := n) h hd
  have d1 : okDiv (gcdI n d) = true := hgb.okD (by omega) (by omega)
  have w := wh_gcd (t := fun e => ev (tabD DF k) (.prim pNe (.cons (.v 3) (.cons (.c (.int 0)) .nil))) e) (b := fun e => exS (tabD DF k) (.par 2 3 (.val (.v 3)) (.val (.prim pMod (.cons (.v 2) (.cons (.v 3) .nil))))) e)
    (fun x y => [.val (.int n), .val (.int d), .val (.int x), .val (.int y)]) (fun x y => by
      show (Out.opt (pNe [.int y, .int 0]) _ : Out D) = _
      rw [n_int]
      rfl) (fun x y hy => by
      show (Out.bind (Out.opt (pMod [.int x, .int y]) _) fun (d : D) e1 => Out.ok (RV.v d) e1).so _ = _
      rw [mod_ok hy]
      rfl) FUEL n.natAbs d.natAbs (hd.fuel (by omega))
  have hw : evWh (fun e => ev (tabD DF k) (.prim pNe (.cons (.v 3) (.cons (.c (.int 0)) .nil))) e) (fun e => exS (tabD DF k) (.par 2 3 (.val (.v 3)) (.val (.prim pMod (.cons (.v 2) (.cons (.v 3) .nil))))) e) FUEL [.val (.int n), .val (.int d), .val (.int n.natAbs), .val (.int d.natAbs)] = .nx [.val (.int n), .val (.int d), .val (.int (gcdI n d)), .val (.int 0)] := w
  refine ret_of (e := [.val (.int n), .val (.int d), .val (.int (gcdI n d)), .val (.int 0)]) 2 4 ir__law_low rfl rfl rfl rfl ?_ rfl
  show (SO.seq (evWh (fun e => ev (tabD DF k) (.prim pNe (.cons (.v 3) (.cons (.c (.int 0)) .nil))) e) (fun e => exS (tabD DF k) (.par 2 3 (.val (.v 3)) (.val (.prim pMod (.cons (.v 2) (.cons (.v 3) .nil))))) e) FUEL [.val (.int n), .val (.int d), .val (.int n.natAbs), .val (.int d.natAbs)]) fun e1 => exS (tabD DF k) (.ret (.val (.ite (.prim pGt (.cons (.v 1) (.cons (.c (.int 0)) .nil))) (.prim pTup (.cons (.prim pDiv (.cons (.v 0) (.cons (.v 2) .nil))) (.cons (.prim pDiv (.cons (.v 1) (.cons (.v 2) .nil))) (.nil)))) (.prim pTup (.cons (.prim pDiv (.cons (.prim pSub (.cons (.c (.int 0)) (.cons (.v 0) .nil))) (.cons (.v 2) .nil))) (.cons (.prim pDiv (.cons (.prim pSub (.cons (.c (.int 0)) (.cons (.v 1) .nil))) (.cons (.v 2) .nil))) (.nil))))))) e1) = _
  rw [hw]
  by_cases hn : d < 0
  · have h2 : ¬ 0 < d := by omega
    simp [exS, evr, ev, evs, eva, evi, rdV, callF, mkArgs, mkArg, isS, noTwice, putBack, Out.bind, Out.so, Out.opt, SO.seq, SO.opt, SO.ifb, putT_n, putT_t, puts_nil, puts_cons, putN_pt, stR_v, stR_f, pt_un, pt_val, pt_f, tab_runE, RV.d, List.replicate, pGt, pSub, pTup, div_ok d1, hn, h2, rD, low]
  · have h2 : 0 < d := by omega
    simp [exS, evr, ev, evs, eva, evi, rdV, callF, mkArgs, mkArg, isS, noTwice, putBack, Out.bind, Out.so, Out.opt, SO.seq, SO.opt, SO.ifb, putT_n, putT_t, puts_nil, puts_cons, putN_pt, stR_v, stR_f, pt_un, pt_val, pt_f, tab_runE, RV.d, List.replicate, pGt, pSub, pTup, div_ok d1, hn, h2, rD, low]
end Lw

set_option Elab.async false
set_option linter.all false
set_option maxRecDepth 100000
namespace Lw
open PySem L2 Eng
/-- a ratio of at most so many bits -/
structure R (k : Nat) (p : Int × Int) : Prop where
  n : Bd k p.1
  d : Bd k p.2
  pos : 0 < p.2
theorem R.mono {k l : Nat} {p : Int × Int} (h : R k p) (hl : k ≤ l) : R l p := ⟨h.n.mono hl, h.d.mono hl, h.pos⟩
theorem Bd.neg {k : Nat} {i : Int} (h : Bd k i) : Bd k (-i) := by unfold Bd at *; omega
theorem gcdI_dvd (n d : Int) : gcdI n d ∣ d := by
  unfold gcdI
  exact Int.ofNat_dvd_left.mpr (Nat.gcd_dvd_left _ _)
theorem low_R {k : Nat} {n d : Int} (h : d ≠ 0) (hn : Bd k n) (hd : Bd k d) : R k (low n d) := by
  have hg := gcdI_pos (n := n) h
  have hv := gcdI_dvd n d
  unfold low
  by_cases hl : d < 0
  · rw [if_pos hl]
    refine ⟨hn.neg.fdiv _ hg, hd.neg.fdiv _ hg, ?_⟩
    show 0 < (-d).fdiv _
    rw [Int.fdiv_eq_ediv_of_nonneg _ (by omega)]
    exact Int.ediv_pos_of_pos_of_dvd (by omega) (by omega) (Int.dvd_neg.mpr hv)
  · rw [if_neg hl]
    refine ⟨hn.fdiv _ hg, hd.fdiv _ hg, ?_⟩
    show 0 < d.fdiv _
    rw [Int.fdiv_eq_ediv_of_nonneg _ (by omega)]
    exact Int.ediv_pos_of_pos_of_dvd (by omega) (by omega) hv
theorem ix0 (p : Int × Int) : pIx [rD p, .int 0] = some (.int p.1) := rfl
theorem ix1 (p : Int × Int) : pIx [rD p, .int 1] = some (.int p.2) := rfl
section
variable (k : Nat) {p q : Int × Int}
/-- the cross products are within bounds -/
theorem cross (hp : R 2000 p) (hq : R 2000 q) : okMul p.1 q.2 = true ∧ okMul q.1 p.2 = true ∧ okMul p.2 q.2 = true ∧ okMul p.1 q.1 = true ∧ okMul p.2 q.1 = true :=
  ⟨hp.n.okM hq.d (by omega), hq.n.okM hp.d (by omega), hp.d.okM hq.d (by omega), hp.n.okM hq.n (by omega), hp.d.okM hq.n (by omega)⟩
theorem den (hp : R 2000 p) (hq : R 2000 q) : p.2 * q.2 ≠ 0 := Int.ne_of_gt (Int.mul_pos hp.pos hq.pos)
def plusP (p q : Int × Int) : Int × Int := low (p.1 * q.2 + q.1 * p.2) (p.2 * q.2)
def minusP (p q : Int × Int) : Int × Int := low (p.1 * q.2 - q.1 * p.2) (p.2 * q.2)
def timesP (p q : Int × Int) : Int × Int := low (p.1 * q.1) (p.2 * q.2)
def overP (p q : Int × Int) : Int × Int := low (p.1 * q.2) (p.2 * q.1)
theorem plus_ok (hp : R 2000 p) (hq : R 2000 q) : runD DF (k + 3) 6 [.val (rD p), .val (rD q)] = .ok (.v (rD (plusP p q))) [.val (rD p), .val (rD q)] := by
  obtain ⟨m1, m2, m3, m4, m5⟩ := cross hp hq
  have hl := lowest k (p.1 * q.2 + q.1 * p.2) (p.2 * q.2) (den hp hq) ((hp.d.mul hq.d).mono (by omega))
  refine ret_of (e := [.val (rD p), .val (rD q)]) 2 2 ir_plus rfl rfl rfl rfl ?_ rfl
  simp [exS, evr, ev, evs, eva, evi, rdV, callF, mkArgs, mkArg, isS, noTwice, putBack, Out.bind, Out.so, Out.opt, SO.seq, SO.opt, SO.ifb, putT_n, putT_t, puts_nil, puts_cons, putN_pt, stR_v, stR_f, pt_un, pt_val, pt_f, tab_runE, RV.d, List.replicate, ir_plus, ix0, ix1, mul_ok m1, mul_ok m2, mul_ok m3, pAdd, hl, plusP]
theorem minus_ok (hp : R 2000 p) (hq : R 2000 q) : runD DF (k + 3) 7 [.val (rD p), .val (rD q)] = .ok (.v (rD (minusP p q))) [.val (rD p), .val (rD q)] := by
  obtain ⟨m1, m2, m3, m4, m5⟩ := cross hp hq
  have hl := lowest k (p.1 * q.2 - q.1 * p.2) (p.2 * q.2) (den hp hq) ((hp.d.mul hq.d).mono (by omega))
  refine ret_of (e := [.val (rD p), .val (rD q)]) 2 2 ir_minus rfl rfl rfl rfl ?_ rfl
  simp [exS, evr, ev, evs, eva, evi, rdV, callF, mkArgs, mkArg, isS, noTwice, putBack, Out.bind, Out.so, Out.opt, SO.seq, SO.opt, SO.ifb, putT_n, putT_t, puts_nil, puts_cons, putN_pt, stR_v, stR_f, pt_un, pt_val, pt_f, tab_runE, RV.d, List.replicate, ir_minus, ix0, ix1, mul_ok m1, mul_ok m2, mul_ok m3, pSub, hl, minusP]
theorem times_ok (hp : R 2000 p) (hq : R 2000 q) : runD DF (k + 3) 8 [.val (rD p), .val (rD q)] = .ok (.v (rD (timesP p q))) [.val (rD p), .val (rD q)] := by
  obtain ⟨m1, m2, m3, m4, m5⟩ := cross hp hq
  have hl := lowest k (p.1 * q.1) (p.2 * q.2) (den hp hq) ((hp.d.mul hq.d).mono (by omega))
  refine ret_of (e := [.val (rD p), .val (rD q)]) 2 2 ir_times rfl rfl rfl rfl ?_ rfl
  simp [exS, evr, ev, evs, eva, evi, rdV, callF, mkArgs, mkArg, isS, noTwice, putBack, Out.bind, Out.so, Out.opt, SO.seq, SO.opt, SO.ifb, putT_n, putT_t, puts_nil, puts_cons, putN_pt, stR_v, stR_f, pt_un, pt_val, pt_f, tab_runE, RV.d, List.replicate, ir_times, ix0, ix1, mul_ok m4, mul_ok m3, hl, timesP]
theorem over_ok (hp : R 2000 p) (hq : R 2000 q) (h0 : q.1 ≠ 0) : runD DF (k + 3) 9 [.val (rD p), .val (rD q)] = .ok (.v (rD (overP p q))) [.val (rD p), .val (rD q)] := by
  obtain ⟨m1, m2, m3, m4, m5⟩ := cross hp hq
  have hl := lowest k (p.1 * q.2) (p.2 * q.1) (Int.mul_ne_zero (by have := hp.pos; omega) h0) ((hp.d.mul hq.n).mono (by omega))
  refine ret_of (e := [.val (rD p), .val (rD q)]) 2 2 ir_over rfl rfl rfl rfl ?_ rfl
  simp [exS, evr, ev, evs, eva, evi, rdV, callF, mkArgs, mkArg, isS, noTwice, putBack, Out.bind, Out.so, Out.opt, SO.seq, SO.opt, SO.ifb, putT_n, putT_t, puts_nil, puts_cons, putN_pt, stR_v, stR_f, pt_un, pt_val, pt_f, tab_runE, RV.d, List.replicate, ir_over, ix0, ix1, e_int, h0, mul_ok m1, mul_ok m5, hl, overP]
theorem over_no (h0 : q.1 = 0) : runD DF (k + 1) 9 [.val (rD p), .val (rD q)] = .exc ⟨0, none⟩ [.val (rD p), .val (rD q)] := by
  refine exc_of (e := [.val (rD p), .val (rD q)]) 2 2 ir_over rfl rfl rfl rfl ?_ rfl
  simp [exS, evr, ev, evs, eva, evi, rdV, callF, mkArgs, mkArg, isS, noTwice, putBack, Out.bind, Out.so, Out.opt, SO.seq, SO.opt, SO.ifb, putT_n, putT_t, puts_nil, puts_cons, putN_pt, stR_v, stR_f, pt_un, pt_val, pt_f, tab_runE, RV.d, List.replicate, ir_over, ix0, ix1, e_int, h0]
def belowP (p q : Int × Int) : Bool := decide (p.1 * q.2 < q.1 * p.2)
theorem below_ok (hp : R 2000 p) (hq : R 2000 q) : runD DF (k + 1) 10 [.val (rD p), .val (rD q)] = .ok (.v (.bl (belowP p q))) [.val (rD p), .val (rD q)] := by
  obtain ⟨m1, m2, m3, m4, m5⟩ := cross hp hq
  refine ret_of (e := [.val (rD p), .val (rD q)]) 2 2 ir_below rfl rfl rfl rfl ?_ rfl
  simp [exS, evr, ev, evs, eva, evi, rdV, callF, mkArgs, mkArg, isS, noTwice, putBack, Out.bind, Out.so, Out.opt, SO.seq, SO.opt, SO.ifb, putT_n, putT_t, puts_nil, puts_cons, putN_pt, stR_v, stR_f, pt_un, pt_val, pt_f, tab_runE, RV.d, List.replicate, ir_below, ix0, ix1, mul_ok m1, mul_ok m2, pLt, belowP]
theorem lesser_ok (hp : R 2000 p) (hq : R 2000 q) : runD DF (k + 2) 12 [.val (rD p), .val (rD q)] = .ok (.v (rD (if belowP q p then q else p))) [.val (rD p), .val (rD q)] := by
  have hb := below_ok k hq hp
  refine ret_of (e := [.val (rD p), .val (rD q)]) 2 2 ir_lesser rfl rfl rfl rfl ?_ rfl
  cases hc : belowP q p <;> simp [exS, evr, ev, evs, eva, evi, rdV, callF, mkArgs, mkArg, isS, noTwice, putBack, Out.bind, Out.so, Out.opt, SO.seq, SO.opt, SO.ifb, putT_n, putT_t, puts_nil, puts_cons, putN_pt, stR_v, stR_f, pt_un, pt_val, pt_f, tab_runE, RV.d, List.replicate, ir_lesser, hb, hc]
theorem greater_ok (hp : R 2000 p) (hq : R 2000 q) : runD DF (k + 2) 13 [.val (rD p), .val (rD q)] = .ok (.v (rD (if belowP p q then q else p))) [.val (rD p), .val (rD q)] := by
  have hb := below_ok k hp hq
  refine ret_of (e := [.val (rD p), .val (rD q)]) 2 2 ir_greater rfl rfl rfl rfl ?_ rfl
  cases hc : belowP p q <;> simp [exS, evr, ev, evs, eva, evi, rdV, callF, mkArgs, mkArg, isS, noTwice, putBack, Out.bind, Out.so, Out.opt, SO.seq, SO.opt, SO.ifb, putT_n, putT_t, puts_nil, puts_cons, putN_pt, stR_v, stR_f, pt_un, pt_val, pt_f, tab_runE, RV.d, List.replicate, ir_greater, hb, hc]
/-- ratio -/
theorem ratio_ok (n d : Int) (h : d ≠ 0) (hd : Bd 8000 d) : runD DF (k + 3) 4 [.val (.int n), .val (.int d)] = .ok (.v (rD (low n d))) [.val (.int n), .val (.int d)] := by
  have hl := lowest k n d h hd
  have w1 := whole (k + 1) (.int n) rfl
  have w2 := whole (k + 1) (.int d) rfl
  refine ret_of (e := [.val (.int n), .val (.int d)]) 2 2 ir_ratio rfl rfl rfl rfl ?_ rfl
  simp [exS, evr, ev, evs, eva, evi, rdV, callF, mkArgs, mkArg, isS, noTwice, putBack, Out.bind, Out.so, Out.opt, SO.seq, SO.opt, SO.ifb, putT_n, putT_t, puts_nil, puts_cons, putN_pt, stR_v, stR_f, pt_un, pt_val, pt_f, tab_runE, RV.d, List.replicate, ir_ratio, w1, w2, D.isW, e_int, h, hl]
theorem ratio_no (n : Int) : runD DF (k + 2) 4 [.val (.int n), .val (.int 0)] = .exc ⟨0, none⟩ [.val (.int n), .val (.int 0)] := by
  have w1 := whole k (.int n) rfl
  have w2 := whole k (.int 0) rfl
  refine exc_of (e := [.val (.int n), .val (.int 0)]) 2 2 ir_ratio rfl rfl rfl rfl ?_ rfl
  simp [exS, evr, ev, evs, eva, evi, rdV, callF, mkArgs, mkArg, isS, noTwice, putBack, Out.bind, Out.so, Out.opt, SO.seq, SO.opt, SO.ifb, putT_n, putT_t, puts_nil, puts_cons, putN_pt, stR_v, stR_f, pt_un, pt_val, pt_f, tab_runE, RV.d, List.replicate, ir_ratio, w1, w2, D.isW, e_int]
/-- is_ratio of two ints -/
theorem isr_ok (n d : Int) (hd : Bd 8000 d) : runD DF (k + 2) 5 [.val (rD (n, d))] = .ok (.v (.bl (decide (0 < d) && decide (gcdI n d = 1)))) [.val (rD (n, d))] := by
  have hc := common k n d (hd.fuel (by omega))
  have w1 := whole k (.int n) rfl
  have w2 := whole k (.int d) rfl
  have l2 : pLen [rD (n, d)] = some (.int 2) := rfl
  have i1 : pIsi "tuple" [rD (n, d)] = some (.bl true) := rfl
  refine ret_of (e := [.val (rD (n, d))]) 1 1 ir_is_ratio rfl rfl rfl rfl ?_ rfl
  by_cases hp : 0 < d
  · simp [exS, evr, ev, evs, eva, evi, rdV, callF, mkArgs, mkArg, isS, noTwice, putBack, Out.bind, Out.so, Out.opt, SO.seq, SO.opt, SO.ifb, putT_n, putT_t, puts_nil, puts_cons, putN_pt, stR_v, stR_f, pt_un, pt_val, pt_f, tab_runE, RV.d, List.replicate, ir_is_ratio, w1, w2, D.isW, e_int, n_int, l2, i1, ix0, ix1, hc, pGt, hp]
  · simp [exS, evr, ev, evs, eva, evi, rdV, callF, mkArgs, mkArg, isS, noTwice, putBack, Out.bind, Out.so, Out.opt, SO.seq, SO.opt, SO.ifb, putT_n, putT_t, puts_nil, puts_cons, putN_pt, stR_v, stR_f, pt_un, pt_val, pt_f, tab_runE, RV.d, List.replicate, ir_is_ratio, w1, w2, D.isW, e_int, n_int, l2, i1, ix0, ix1, hc, pGt, hp]
end
end Lw

set_option Elab.async false
set_option linter.all false
set_option maxRecDepth 100000
namespace Lw
open PySem L2 Eng TL
/-! ### comprehensions of one name -/
theorem comp_ok (T : Tab) (i : Nat) (it : II) (elt : IE) (items : List D) (g : D → D) (e : Sls) (hi : evi T it e = .ok items e) (hs : e[i]? = some .un) (hl : items.length ≤ 16777216)
    (hb : ∀ x ∈ items, ev T elt (e.set i (.val x)) = .ok (g x) (e.set i (.val x))) : ev T (.comp [i] (.n i) it (.c (.bl true)) elt) e = .ok (.lst (items.map g)) e := by
  have hlt : i < e.length := (List.getElem?_eq_some_iff.mp hs).1
  have hself : e.set i .un = e := by
    apply List.ext_getElem?
    intro j
    by_cases hj : i = j
    · subst hj; rw [List.getElem?_set_self hlt, hs]
    · rw [List.getElem?_set_ne hj]
  have loop : ∀ (xs : List D) (acc : List D) (e1 : Sls), (∀ x ∈ xs, x ∈ items) → e1.set i .un = e → ∃ e2, evComp (cBody (Tg.put (.n i)) [i] (fun e => ev T (.c (.bl true)) e) (fun e => ev T elt e)) xs acc e1 = .ok (acc ++ xs.map g) e2 ∧ e2.set i .un = e := by
    intro xs
    induction xs with
    | nil => intro acc e1 _ h; exact ⟨e1, by simp [evComp], h⟩
    | cons x xs ih =>
      intro acc e1 hm h
      have hp : Tg.put (.n i) x (wipeS e1 [i]) = some (e.set i (.val x)) := by
        show putN i x (e1.set i .un) = _
        rw [h]
        unfold putN
        rw [hs]
      obtain ⟨e2, h1, h2⟩ := ih (acc ++ [g x]) (e.set i (.val x)) (fun y hy => hm y (List.mem_cons_of_mem _ hy)) (by rw [List.set_set, hself])
      refine ⟨e2, ?_, h2⟩
      unfold evComp cBody
      rw [hp]
      simp only [ev, Out.bind, hb x (hm x (List.mem_cons_self ..))]
      have : acc ++ (x :: xs).map g = acc ++ [g x] ++ xs.map g := by simp
      rw [this]
      exact h1
  obtain ⟨e2, h1, h2⟩ := loop items [] e (fun _ h => h) hself
  unfold ev
  rw [hi]
  have ho : ownOk e [i] = true := by
    show ((match e[i]? with
      | some (.mt _ _) => false
      | some _ => true
      | none => false) && true) = true
    rw [hs]; rfl
  simp only [Out.bind, ho, Bool.true_and, decide_eq_true hl, Bool.not_true, Bool.false_eq_true, if_false, h1, Out.nox, List.nil_append]
  have hb2 : backS e e2 [i] = e := by
    show (match e[i]? with
      | some s => (backS e e2 []).set i s
      | none => backS e e2 []) = e
    rw [hs]
    exact h2
  rw [hb2]
theorem bls_map {α : Type} (f : α → Bool) : ∀ l : List α, D.bls (l.map fun c => .bl (f c)) = some (l.map f)
  | [] => rfl
  | c :: l => by
    show (D.bls (l.map fun c => .bl (f c))).map (f c :: ·) = _
    rw [bls_map f l]
    rfl
/-! ### texts as lists of signs -/
def mkS (l : List Nat) : Str := ⟨l.toArray⟩
theorem mkS_tl (x : Str) : mkS (tl x) = x := mk_tl x
theorem tl_mkS (l : List Nat) : tl (mkS l) = l := rfl
theorem mkS_len (l : List Nat) : (mkS l).length = l.length := by rw [len_tl]; rfl
theorem mkS_eq (l m : List Nat) : (mkS l == mkS m) = decide (l = m) := by
  by_cases h : l = m
  · subst h; simp
  · have : mkS l ≠ mkS m := fun z => h (by have := congrArg tl z; exact this)
    rw [decide_eq_false h]
    simpa using this
theorem mkS_app (l m : List Nat) : mkS l ++ mkS m = mkS (l ++ m) := by
  apply ext_tl
  rw [tl_append]
  rfl
def isDig (c : Nat) : Bool := decide (48 ≤ c) && decide (c ≤ 57)
def digs (l : List Nat) : Bool := !decide (l = []) && (l.all isDig && (decide (l = [48]) || !decide (l.head? = some 48)))
theorem dig_in (c : Nat) : pIn [.str ⟨#[c]⟩, .str "0123456789"] = some (.bl (isDig c)) := by
  show some (D.bl (!(Builtin.Str.occurrences "0123456789" ⟨#[c]⟩ 0 (Str.length "0123456789") 1).isEmpty)) = _
  rw [PySem.StrLaws.found_one]
  congr 2
  have : (Str.cps "0123456789").toList = [48, 49, 50, 51, 52, 53, 54, 55, 56, 57] := by rfl
  rw [this]
  unfold isDig
  by_cases h1 : 48 ≤ c <;> by_cases h2 : c ≤ 57 <;> simp [h1, h2] <;> omega
theorem s_empty : ("" : Str) = mkS [] := by rfl
theorem s_0 : ("0" : Str) = mkS [48] := by rfl
theorem z_minus : ("-" : Str) = mkS [45] := by rfl
theorem s_m0 : ("-0" : Str) = mkS [45, 48] := by rfl
theorem s_slash : ("/" : Str) = mkS [47] := by rfl
theorem s_1 : ("1" : Str) = mkS [49] := by rfl
theorem one_sign (c : Nat) : (⟨#[c]⟩ : Str) = mkS [c] := rfl
theorem ixS (l : List Nat) (hl : l.length ≤ 16777216) (c : Nat) (r : List Nat) (h : l = c :: r) : pIx [.str (mkS l), .int 0] = some (.str (mkS [c])) := by
  subst h
  show (if (mkS (c :: r)).length ≤ 16777216 then (atI (mkS (c :: r)).cps.toList 0).map fun c => D.str ⟨#[c]⟩ else none) = _
  rw [mkS_len, if_pos hl]
  simp [mkS, atI, ixN]
theorem sl01 (l : List Nat) (hl : l.length ≤ 16777216) : pSl01 [.str (mkS l), .int 1] = some (.str (mkS (l.take 1))) := by
  show (if (mkS l).length ≤ 16777216 then some (D.str (cutS (mkS l) none (some 1))) else none) = _
  rw [mkS_len, if_pos hl]
  congr 2
  show (⟨((l.drop 0).take (HT.sIx (mkS l).length (mkS l).length (some 1) - 0)).toArray⟩ : Str) = _
  rw [mkS_len, show (some (1 : Int)) = some ((1 : Nat) : Int) from rfl, HT.sIx_nat]
  cases l with
  | nil => rfl
  | cons c r => simp [mkS, Nat.min_eq_left (show 1 ≤ (c :: r).length by simp)]
theorem sl10 (l : List Nat) (hl : l.length ≤ 16777216) : pSl10 [.str (mkS l), .int 1] = some (.str (mkS (l.drop 1))) := by
  show (if (mkS l).length ≤ 16777216 then some (D.str (cutS (mkS l) (some 1) none)) else none) = _
  rw [mkS_len, if_pos hl]
  congr 2
  show (⟨((l.drop (HT.sIx (mkS l).length 0 (some 1))).take (HT.sIx (mkS l).length (mkS l).length none - HT.sIx (mkS l).length 0 (some 1))).toArray⟩ : Str) = _
  rw [mkS_len, show (some (1 : Int)) = some ((1 : Nat) : Int) from rfl, HT.sIx_nat, HT.sIx_none]
  cases l with
  | nil => rfl
  | cons c r => simp [mkS, Nat.min_eq_left (show 1 ≤ (c :: r).length by simp)]
def sItems (l : List Nat) : List D := l.map fun c => .str ⟨#[c]⟩
def cDig (i j : Nat) : IE := .prim pAll (.cons (.comp [j] (.n j) (.mk pItems (.cons (.v i) .nil)) (.c (.bl true)) (.prim pIn (.cons (.v j) (.cons (.c (.str "0123456789")) .nil)))) (.nil))
theorem cDig_ok (T : Tab) (i j : Nat) (l : List Nat) (e : Sls) (hl : l.length ≤ 16777216) (hi : e[i]? = some (.val (.str (mkS l)))) (hj : e[j]? = some .un) : ev T (cDig i j) e = .ok (.bl (l.all isDig)) e := by
  have hlt : j < e.length := (List.getElem?_eq_some_iff.mp hj).1
  have hc := comp_ok T j (.mk pItems (.cons (.v i) .nil)) (.prim pIn (.cons (.v j) (.cons (.c (.str "0123456789")) .nil))) (sItems l) (fun d => match d with | .str x => .bl (isDig ((tl x).headD 0)) | d => d)
    e (by simp [exS, evr, ev, evs, eva, evi, rdV, callF, mkArgs, mkArg, isS, noTwice, putBack, Out.bind, Out.so, Out.opt, SO.seq, SO.opt, SO.ifb, putT_n, putT_t, puts_nil, puts_cons, putN_pt, stR_v, stR_f, pt_un, pt_val, pt_f, tab_runE, RV.d, List.replicate, hi, pItems, sItems, mkS]) hj (by simpa [sItems] using hl) (fun x hx => by
      obtain ⟨c, _, rfl⟩ := List.mem_map.mp hx
      simp [exS, evr, ev, evs, eva, evi, rdV, callF, mkArgs, mkArg, isS, noTwice, putBack, Out.bind, Out.so, Out.opt, SO.seq, SO.opt, SO.ifb, putT_n, putT_t, puts_nil, puts_cons, putN_pt, stR_v, stR_f, pt_un, pt_val, pt_f, tab_runE, RV.d, List.replicate, dig_in, tl, List.getElem?_set_self hlt])
  have hm : (sItems l).map (fun d => match d with | .str x => D.bl (isDig ((tl x).headD 0)) | d => d) = l.map fun c => D.bl (isDig c) := by
    simp [sItems, tl]
  rw [hm] at hc
  have ha : pAll [.lst (l.map fun c => D.bl (isDig c))] = some (.bl (l.all isDig)) := by
    show (D.bls _).map (fun bs => D.bl (bs.all id)) = _
    rw [bls_map]
    simp [List.all_map]
  unfold cDig
  have h1 : ∀ (c : IE), ev T c e = .ok (.lst (l.map fun c => D.bl (isDig c))) e → ev T (.prim pAll (.cons c .nil)) e = .ok (.bl (l.all isDig)) e := fun c h => by
    simp [exS, evr, ev, evs, eva, evi, rdV, callF, mkArgs, mkArg, isS, noTwice, putBack, Out.bind, Out.so, Out.opt, SO.seq, SO.opt, SO.ifb, putT_n, putT_t, puts_nil, puts_cons, putN_pt, stR_v, stR_f, pt_un, pt_val, pt_f, tab_runE, RV.d, List.replicate, h, ha]
  exact h1 _ hc
/-- digits(text) -/
theorem digits_ok (k : Nat) (l : List Nat) (hl : l.length ≤ 16777216) : runD DF (k + 1) 23 [.val (.str (mkS l))] = .ok (.v (.bl (digs l))) [.val (.str (mkS l))] := by
  have hc := cDig_ok (tabD DF k) 0 1 l [.val (.str (mkS l)), .un] hl rfl rfl
  have hir : ir__law_digits = .ret (.val (.and (.prim pNe (.cons (.v 0) (.cons (.c (.str "")) .nil))) (.and (cDig 0 1) (.or (.prim pEq (.cons (.v 0) (.cons (.c (.str "0")) .nil))) (.prim pNe (.cons (.prim pIx (.cons (.v 0) (.cons (.c (.int 0)) .nil))) (.cons (.c (.str "0")) .nil))))))) := rfl
  refine ret_of (e := [.val (.str (mkS l)), .un]) 1 2 ir__law_digits rfl rfl rfl rfl ?_ rfl
  cases l with
  | nil => simp [exS, evr, ev, evs, eva, evi, rdV, callF, mkArgs, mkArg, isS, noTwice, putBack, Out.bind, Out.so, Out.opt, SO.seq, SO.opt, SO.ifb, putT_n, putT_t, puts_nil, puts_cons, putN_pt, stR_v, stR_f, pt_un, pt_val, pt_f, tab_runE, RV.d, List.replicate, hir, s_empty, n_str, digs]
  | cons c r =>
    have hx := ixS (c :: r) hl c r rfl
    cases hd : (c :: r).all isDig with
    | false => simp [exS, evr, ev, evs, eva, evi, rdV, callF, mkArgs, mkArg, isS, noTwice, putBack, Out.bind, Out.so, Out.opt, SO.seq, SO.opt, SO.ifb, putT_n, putT_t, puts_nil, puts_cons, putN_pt, stR_v, stR_f, pt_un, pt_val, pt_f, tab_runE, RV.d, List.replicate, hir, s_empty, n_str, mkS_eq, hc, hd, digs]
    | true =>
      by_cases h0 : c = 48 <;> by_cases h1 : r = [] <;> (try subst h0) <;> (try subst h1) <;> simp_all [exS, evr, ev, evs, eva, evi, rdV, callF, mkArgs, mkArg, isS, noTwice, putBack, Out.bind, Out.so, Out.opt, SO.seq, SO.opt, SO.ifb, putT_n, putT_t, puts_nil, puts_cons, putN_pt, stR_v, stR_f, pt_un, pt_val, pt_f, tab_runE, RV.d, List.replicate, hir, s_empty, s_0, n_str, e_str, mkS_eq, digs]
end Lw

set_option Elab.async false
set_option linter.all false
set_option maxRecDepth 100000
namespace Lw
open PySem L2 Eng TL
/-- all but the first sign -/
def dr (l : List Nat) : List Nat := l.drop 1
theorem sl10' (l : List Nat) (hl : l.length ≤ 16777216) : pSl10 [.str (mkS l), .int 1] = some (.str (mkS (dr l))) := sl10 l hl
def bodyL (l : List Nat) : List Nat := if l.take 1 = [45] then dr l else l
def gw (l : List Nat) : Bool := !decide (l = [45, 48]) && digs (bodyL l)
def valI (l : List Nat) : Int := if l.take 1 = [45] then -((NumText.digitsVal (dr l) : Nat) : Int) else ((NumText.digitsVal l : Nat) : Int)
theorem body_len (l : List Nat) : (bodyL l).length ≤ l.length := by
  unfold bodyL
  split
  · unfold dr; rw [List.length_drop]; omega
  · exact Nat.le_refl _
theorem good_whole_ok (k : Nat) (l : List Nat) (hl : l.length ≤ 16777216) : runD DF (k + 2) 24 [.val (.str (mkS l))] = .ok (.v (.bl (gw l))) [.val (.str (mkS l))] := by
  have hd := digits_ok k (bodyL l) (Nat.le_trans (body_len l) hl)
  have h1 := sl01 l hl
  have h2 := sl10' l hl
  have i1 : pIsi "str" [.str (mkS l)] = some (.bl true) := rfl
  refine ret_of (e := [.val (.str (mkS l))]) 1 1 ir__law_good_whole rfl rfl rfl rfl ?_ rfl
  unfold bodyL at hd
  by_cases hb : l.take 1 = [45]
  · rw [if_pos hb] at hd
    by_cases h0 : l = [45, 48]
    · subst h0
      simp [exS, evr, ev, evs, eva, evi, rdV, callF, mkArgs, mkArg, isS, noTwice, putBack, Out.bind, Out.so, Out.opt, SO.seq, SO.opt, SO.ifb, putT_n, putT_t, puts_nil, puts_cons, putN_pt, stR_v, stR_f, pt_un, pt_val, pt_f, tab_runE, RV.d, List.replicate, ir__law_good_whole, s_m0, z_minus, n_str, e_str, mkS_eq, h1, h2, i1, gw, bodyL]
    · simp [exS, evr, ev, evs, eva, evi, rdV, callF, mkArgs, mkArg, isS, noTwice, putBack, Out.bind, Out.so, Out.opt, SO.seq, SO.opt, SO.ifb, putT_n, putT_t, puts_nil, puts_cons, putN_pt, stR_v, stR_f, pt_un, pt_val, pt_f, tab_runE, RV.d, List.replicate, ir__law_good_whole, s_m0, z_minus, n_str, e_str, mkS_eq, h1, h2, i1, h0, hb, hd, gw, bodyL]
  · rw [if_neg hb] at hd
    by_cases h0 : l = [45, 48]
    · subst h0; exact absurd rfl hb
    · simp [exS, evr, ev, evs, eva, evi, rdV, callF, mkArgs, mkArg, isS, noTwice, putBack, Out.bind, Out.so, Out.opt, SO.seq, SO.opt, SO.ifb, putT_n, putT_t, puts_nil, puts_cons, putN_pt, stR_v, stR_f, pt_un, pt_val, pt_f, tab_runE, RV.d, List.replicate, ir__law_good_whole, s_m0, z_minus, n_str, e_str, mkS_eq, h1, h2, i1, h0, hb, hd, gw, bodyL]
theorem allD {l : List Nat} (h : l.all isDig = true) : NumText.AllDigits l := fun c hc => by
  have := List.all_eq_true.mp h c hc
  unfold isDig at this
  rw [Bool.and_eq_true, decide_eq_true_eq, decide_eq_true_eq] at this
  exact this
theorem int_ok {l : List Nat} (h : (bodyL l).all isDig = true) (hne : bodyL l ≠ []) (hl : l.length ≤ 640) : pInt [.str (mkS l)] = some (.int (valI l)) := by
  show (if (mkS l).length ≤ 640 then (intText? (mkS l)).map D.int else none) = _
  rw [mkS_len, if_pos hl]
  unfold bodyL at h hne
  unfold valI
  by_cases hb : l.take 1 = [45]
  · rw [if_pos hb] at h hne ⊢
    have e : l = 45 :: dr l := by
      have := List.take_append_drop 1 l
      rw [hb] at this
      exact this.symm
    rw [PySem.intText_neg (x := mkS l) (cs := dr l) e (allD h) hne (by rw [mkS_len]; omega)]
    rfl
  · rw [if_neg hb] at h hne ⊢
    rw [PySem.intText_digits (x := mkS l) (allD h) hne (by rw [mkS_len]; omega)]
    rfl
theorem gw_int {l : List Nat} (h : gw l = true) (hl : l.length ≤ 640) : pInt [.str (mkS l)] = some (.int (valI l)) := by
  unfold gw digs at h
  simp only [Bool.and_eq_true, Bool.not_eq_true', decide_eq_false_iff_not] at h
  exact int_ok h.2.2.1 h.2.1 hl
theorem chk0 : chk_NoText (.int 0) = true := by decide +kernel
def noText : Exn := ⟨1, some (.int 0)⟩
theorem is_str (l : List Nat) : pIsi "str" [.str (mkS l)] = some (.bl true) := rfl
theorem lenS (l : List Nat) (hl : l.length ≤ 16777216) : pLen [.str (mkS l)] = some (.int l.length) := by
  show (if (mkS l).length ≤ 16777216 then some (D.int (mkS l).length) else none) = _
  rw [mkS_len, if_pos hl]
def bodyE : IE := .ite (.prim pEq (.cons (.prim pSl01 (.cons (.v 0) (.cons (.c (.int 1)) (.nil)))) (.cons (.c (.str "-")) .nil))) (.prim pSl10 (.cons (.v 0) (.cons (.c (.int 1)) (.nil)))) (.v 0)
theorem bodyE_ok (T : Tab) (l : List Nat) (hl : l.length ≤ 16777216) (r : Sls) : ev T bodyE (.val (.str (mkS l)) :: r) = .ok (.str (mkS (bodyL l))) (.val (.str (mkS l)) :: r) := by
  have h1 := sl01 l hl
  have h2 := sl10' l hl
  by_cases hb : l.take 1 = [45]
  · simp [exS, evr, ev, evs, eva, evi, rdV, callF, mkArgs, mkArg, isS, noTwice, putBack, Out.bind, Out.so, Out.opt, SO.seq, SO.opt, SO.ifb, putT_n, putT_t, puts_nil, puts_cons, putN_pt, stR_v, stR_f, pt_un, pt_val, pt_f, tab_runE, RV.d, List.replicate, bodyE, z_minus, e_str, mkS_eq, h1, h2, hb, bodyL]
  · simp [exS, evr, ev, evs, eva, evi, rdV, callF, mkArgs, mkArg, isS, noTwice, putBack, Out.bind, Out.so, Out.opt, SO.seq, SO.opt, SO.ifb, putT_n, putT_t, puts_nil, puts_cons, putN_pt, stR_v, stR_f, pt_un, pt_val, pt_f, tab_runE, RV.d, List.replicate, bodyE, z_minus, e_str, mkS_eq, h1, h2, hb, bodyL]
theorem rw_ir : ir_read_whole = .seq (.ife (.not (.prim (pIsi "str") (.cons (.v 0) .nil))) (.raise 1 (pChk chk_NoText) (.cons (.c (.int 0)) (.nil))) (.nop)) (.seq (.put (.n 1) bodyE) (.seq (.ife (.or (.prim pLt (.cons (.prim pLen (.cons (.v 1) (.nil))) (.cons (.c (.int 1)) .nil))) (.or (.prim pGt (.cons (.prim pLen (.cons (.v 1) (.nil))) (.cons (.c (.int 4000)) .nil))) (.not (cDig 1 2)))) (.raise 1 (pChk chk_NoText) (.cons (.c (.int 0)) (.nil))) (.nop)) (.seq (.ife (.and (.prim pEq (.cons (.prim pIx (.cons (.v 1) (.cons (.c (.int 0)) .nil))) (.cons (.c (.str "0")) .nil))) (.prim pNe (.cons (.v 0) (.cons (.c (.str "0")) .nil)))) (.raise 1 (pChk chk_NoText) (.cons (.c (.int 0)) (.nil))) (.nop)) (.ret (.val (.prim pInt (.cons (.v 0) (.nil)))))))) := rfl
theorem body48 {l : List Nat} (h : bodyL l = [48]) : l = [48] ∨ l = [45, 48] := by
  unfold bodyL at h
  split at h
  · rename_i hb
    right
    have := List.take_append_drop 1 l
    rw [hb] at this
    unfold dr at h
    rw [h] at this
    exact this.symm
  · exact .inl h
/-- what is read: the body, its digits -/
theorem gw_iff (l : List Nat) : gw l = (!decide (bodyL l = []) && ((bodyL l).all isDig && (!decide ((bodyL l).head? = some 48) || decide (l = [48])))) := by
  unfold gw digs
  by_cases h1 : bodyL l = [48]
  · rw [h1]
    rcases body48 h1 with rfl | rfl
    · decide
    · decide
  · by_cases h2 : l = [45, 48]
    · subst h2
      exact absurd rfl h1
    · by_cases h3 : l = [48]
      · subst h3
        exact absurd rfl h1
      · simp [h1, h2, h3]
theorem read_whole_run (k : Nat) (l : List Nat) (hl : l.length ≤ 640) : (gw l = true → runD DF (k + 1) 1 [.val (.str (mkS l))] = .ok (.v (.int (valI l))) [.val (.str (mkS l))]) ∧
    (gw l = false → runD DF (k + 1) 1 [.val (.str (mkS l))] = .exc noText [.val (.str (mkS l))]) := by
  have hbl := body_len l
  have ln := lenS (bodyL l) (by omega)
  have hc := cDig_ok (tabD DF k) 1 2 (bodyL l) [.val (.str (mkS l)), .val (.str (mkS (bodyL l))), .un] (by omega) rfl rfl
  have hb := bodyE_ok (tabD DF k) l (by omega) [.un, .un]
  have hmax : ¬ (4000 < ((bodyL l).length : Int)) := by omega
  have hs := is_str l
  constructor
  · intro h
    have hi := gw_int h hl
    rw [gw_iff] at h
    simp only [Bool.and_eq_true, Bool.not_eq_true', decide_eq_false_iff_not, Bool.or_eq_true, decide_eq_true_eq] at h
    obtain ⟨h1, h2, h3⟩ := h
    refine ret_of (e := [.val (.str (mkS l)), .val (.str (mkS (bodyL l))), .un]) 1 3 ir_read_whole rfl rfl rfl rfl ?_ rfl
    cases hbo : bodyL l with
    | nil => exact absurd hbo h1
    | cons c r =>
      have hx := ixS (bodyL l) (by omega) c r hbo
      rw [hbo] at hx hc hb ln hmax h2 h3
      have hpos : ¬ ((((c :: r).length : Nat) : Int) < 1) := by simp; omega
      generalize hn : (((c :: r).length : Nat) : Int) = n at ln hmax hpos
      rw [rw_ir]
      by_cases h0 : c = 48
      · subst h0
        have h4 : l = [48] := by simpa using h3
        have hd : decide (l = [48]) = true := decide_eq_true h4
        simp [exS, evr, ev, evs, eva, evi, rdV, callF, mkArgs, mkArg, isS, noTwice, putBack, Out.bind, Out.so, Out.opt, SO.seq, SO.opt, SO.ifb, putT_n, putT_t, puts_nil, puts_cons, putN_pt, stR_v, stR_f, pt_un, pt_val, pt_f, tab_runE, RV.d, List.replicate, hs, hb, ln, hmax, hpos, pLt, pGt, hc, h2, hx, s_0, e_str, n_str, mkS_eq, hi, hd]
      · simp [exS, evr, ev, evs, eva, evi, rdV, callF, mkArgs, mkArg, isS, noTwice, putBack, Out.bind, Out.so, Out.opt, SO.seq, SO.opt, SO.ifb, putT_n, putT_t, puts_nil, puts_cons, putN_pt, stR_v, stR_f, pt_un, pt_val, pt_f, tab_runE, RV.d, List.replicate, hs, hb, ln, hmax, hpos, pLt, pGt, hc, h2, hx, s_0, e_str, n_str, mkS_eq, h0, hi]
  · intro h
    rw [gw_iff] at h
    refine exc_of (e := if bodyL l = [] ∨ True then [.val (.str (mkS l)), .val (.str (mkS (bodyL l))), .un] else []) 1 3 ir_read_whole rfl rfl rfl rfl ?_ (by simp [backA])
    rw [if_pos (.inr trivial), rw_ir]
    cases hbo : bodyL l with
    | nil =>
      rw [hbo] at hc hb ln hmax
      simp [exS, evr, ev, evs, eva, evi, rdV, callF, mkArgs, mkArg, isS, noTwice, putBack, Out.bind, Out.so, Out.opt, SO.seq, SO.opt, SO.ifb, putT_n, putT_t, puts_nil, puts_cons, putN_pt, stR_v, stR_f, pt_un, pt_val, pt_f, tab_runE, RV.d, List.replicate, hs, hb, ln, pLt, pChk, chk0, noText]
    | cons c r =>
      have hx := ixS (bodyL l) (by omega) c r hbo
      rw [hbo] at hx hc hb ln hmax h
      have hpos : ¬ ((((c :: r).length : Nat) : Int) < 1) := by simp; omega
      generalize hn : (((c :: r).length : Nat) : Int) = n at ln hmax hpos
      cases h2 : (c :: r).all isDig with
      | false => simp [exS, evr, ev, evs, eva, evi, rdV, callF, mkArgs, mkArg, isS, noTwice, putBack, Out.bind, Out.so, Out.opt, SO.seq, SO.opt, SO.ifb, putT_n, putT_t, puts_nil, puts_cons, putN_pt, stR_v, stR_f, pt_un, pt_val, pt_f, tab_runE, RV.d, List.replicate, hs, hb, ln, hmax, hpos, pLt, pGt, hc, h2, pChk, chk0, noText]
      | true =>
        rw [h2] at h
        have h' : c = 48 ∧ l ≠ [48] := by simpa using h
        obtain ⟨rfl, h4⟩ := h'
        have hd : decide (l = [48]) = false := decide_eq_false h4
        simp [exS, evr, ev, evs, eva, evi, rdV, callF, mkArgs, mkArg, isS, noTwice, putBack, Out.bind, Out.so, Out.opt, SO.seq, SO.opt, SO.ifb, putT_n, putT_t, puts_nil, puts_cons, putN_pt, stR_v, stR_f, pt_un, pt_val, pt_f, tab_runE, RV.d, List.replicate, hs, hb, ln, hmax, hpos, pLt, pGt, hc, h2, hx, s_0, e_str, n_str, mkS_eq, hd, pChk, chk0, noText]
end Lw

set_option Elab.async false
set_option linter.all false
set_option maxRecDepth 100000
namespace Lw
open PySem L2 Eng TL
theorem slash_tl : tl ("/" : Str) = 47 :: [] := by rfl
theorem slash_k : (("/" : Str).cps.all (· < 256)) = true := by decide +kernel
theorem partS (x : Str) (p : Str × Str × Str) (h : Txt.partition x "/" = p) (hl : x.length ≤ 16777216) : pPart [.str x, .str "/"] = some (.tup [.str p.1, .str p.2.1, .str p.2.2]) := by
  subst h
  show (if ((Str.length "/") == 0) = false ∧ x.length ≤ 16777216 then some _ else none) = _
  rw [if_pos ⟨by rfl, hl⟩]
theorem part_none {l : List Nat} (h : 47 ∉ l) (hl : l.length ≤ 16777216) : pPart [.str (mkS l), .str "/"] = some (.tup [.str (mkS l), .str (mkS []), .str (mkS [])]) :=
  partS _ (mkS l, mkS [], mkS []) (partition_none slash_tl h) (by rw [mkS_len]; exact hl)
theorem part_some {a b : List Nat} (h : 47 ∉ a) (hl : (a ++ 47 :: b).length ≤ 16777216) : pPart [.str (mkS (a ++ 47 :: b)), .str "/"] = some (.tup [.str (mkS a), .str (mkS [47]), .str (mkS b)]) := by
  have e : mkS (a ++ 47 :: b) = mkS a ++ "/" ++ mkS b := by
    rw [s_slash, mkS_app, mkS_app]
    simp
  refine partS _ (mkS a, mkS [47], mkS b) ?_ (by rw [mkS_len]; exact hl)
  rw [e]
  exact partition_app slash_tl (a := mkS a) (b := mkS b) h
theorem splitS (l : List Nat) (hl : l.length + 2 ≤ 16777216) : pSplit [.str (mkS l), .str "/"] = some (.lst ((spl [47] 0 [] l).map fun x => .str (mkS x))) := by
  show (if ((Str.length "/") == 0) = false ∧ (mkS l).length + 2 ≤ 16777216 then some (D.lst ((Txt.split (mkS l) "/").map D.str)) else none) = _
  rw [if_pos ⟨by rfl, by rw [mkS_len]; exact hl⟩]
  have h := split_spl (mkS l) "/" (by rw [slash_tl]; simp) (kind_ok slash_k)
  have e : Txt.split (mkS l) "/" = (spl [47] 0 [] l).map mkS := by
    apply map_tl_inj
    rw [h, List.map_map]
    rw [slash_tl]
    show spl [47] 0 [] l = (spl [47] 0 [] l).map (fun x => x)
    simp
  rw [e, List.map_map]
  rfl
theorem spl_none {l : List Nat} (h : 47 ∉ l) : spl [47] 0 [] l = [l] := spl_last1 h
theorem spl_some {a b : List Nat} (h : 47 ∉ a) : spl [47] 0 [] (a ++ 47 :: b) = a :: spl [47] 0 [] b := spl_part1 (S := []) (acc := []) h
theorem cut47 (l : List Nat) : 47 ∉ l ∨ ∃ a b, l = a ++ 47 :: b ∧ 47 ∉ a := by
  induction l with
  | nil => exact .inl (by simp)
  | cons c r ih =>
    by_cases hc : c = 47
    · subst hc
      exact .inr ⟨[], r, rfl, by simp⟩
    · rcases ih with h | ⟨a, b, rfl, h⟩
      · exact .inl (by simp [Ne.symm hc, h])
      · exact .inr ⟨c :: a, b, rfl, by simp [Ne.symm hc, h]⟩
theorem spl_ne (l : List Nat) : spl [47] 0 [] l ≠ [] := by
  rcases cut47 l with h | ⟨a, b, rfl, h⟩
  · rw [spl_none h]; simp
  · rw [spl_some h]; simp
theorem fold_lt : ∀ (l : List Nat) (acc : Nat), NumText.AllDigits l → l.foldl (fun acc c => acc * 10 + (c - 48)) acc < (acc + 1) * 10 ^ l.length
  | [], acc, _ => by simp
  | c :: l, acc, h => by
    have hc := h c (List.mem_cons_self ..)
    have ih := fold_lt l (acc * 10 + (c - 48)) (fun d hd => h d (List.mem_cons_of_mem _ hd))
    show l.foldl _ (acc * 10 + (c - 48)) < _
    refine Nat.lt_of_lt_of_le ih ?_
    rw [List.length_cons, Nat.pow_succ, Nat.mul_comm (10 ^ l.length) 10, ← Nat.mul_assoc]
    exact Nat.mul_le_mul_right _ (by omega)
theorem val_bd {l : List Nat} (h : gw l = true) (hl : l.length ≤ 640) : Bd 2560 (valI l) := by
  rw [gw_iff] at h
  simp only [Bool.and_eq_true] at h
  have hd := allD h.2.1
  have hb := body_len l
  have key : ∀ m : List Nat, NumText.AllDigits m → m.length ≤ 640 → NumText.digitsVal m < 2 ^ 2560 := fun m hm hlen => by
    have h1 := fold_lt m 0 hm
    have h2 : (0 + 1) * 10 ^ m.length ≤ 16 ^ m.length := by
      rw [Nat.zero_add, Nat.one_mul]
      exact Nat.pow_le_pow_left (by omega) _
    have h3 : 16 ^ m.length ≤ 2 ^ 2560 := by
      rw [show (16 : Nat) = 2 ^ 4 from rfl, ← Nat.pow_mul]
      exact Nat.pow_le_pow_right (by omega) (by omega)
    exact Nat.lt_of_lt_of_le h1 (Nat.le_trans h2 h3)
  unfold Bd valI
  unfold bodyL at hd hb
  by_cases ht : l.take 1 = [45]
  · rw [if_pos ht] at hd hb ⊢
    have := key (dr l) hd (by omega)
    omega
  · rw [if_neg ht] at hd hb ⊢
    have := key l hd (by omega)
    omega
/-- what read_ratio reads -/
def rrB (va vb : Int) : Bool := decide (0 < vb) && decide (gcdI va vb = 1) && !decide (vb = 1)
theorem pS_str (x : Str) : pS [.str x] = some (.str x) := rfl
theorem rr_none (k : Nat) {l : List Nat} (h : 47 ∉ l) (hl : l.length ≤ 640) : runD DF (k + 3) 15 [.val (.str (mkS l))] = (if gw l then .ok (.v (rD (valI l, 1))) [.val (.str (mkS l))] else .exc noText [.val (.str (mkS l))]) := by
  obtain ⟨h1, h2⟩ := read_whole_run (k + 1) l hl
  have hp := part_none h (by omega)
  have hs := is_str l
  have hi := isr_ok k (valI l) 1 (by unfold Bd; exact Nat.one_lt_two_pow (by omega))
  have hg : gcdI (valI l) 1 = 1 := by simp [gcdI]
  have ht : pTup [.int (valI l), .int 1] = some (rD (valI l, 1)) := rfl
  cases hw : gw l with
  | true =>
    rw [if_pos rfl]
    refine ret_of (e := [.val (.str (mkS l)), .val (.str (mkS l)), .val (.str (mkS [])), .val (.str (mkS [])), .val (rD (valI l, 1))]) 1 5 ir_read_ratio rfl rfl rfl rfl ?_ rfl
    have h1 := h1 hw
    simp [exS, evr, ev, evs, eva, evi, rdV, callF, mkArgs, mkArg, isS, noTwice, putBack, Out.bind, Out.so, Out.opt, SO.seq, SO.opt, SO.ifb, putT_n, putT_t, puts_nil, puts_cons, putN_pt, stR_v, stR_f, pt_un, pt_val, pt_f, tab_runE, RV.d, List.replicate, ir_read_ratio, hs, hp, pS_str, h1, s_empty, n_str, mkS_eq, ht, hi, hg]
  | false =>
    have h2 := h2 hw
    refine exc_of (e := [.val (.str (mkS l)), .val (.str (mkS l)), .val (.str (mkS [])), .val (.str (mkS [])), .un]) 1 5 ir_read_ratio rfl rfl rfl rfl ?_ rfl
    simp [exS, evr, ev, evs, eva, evi, rdV, callF, mkArgs, mkArg, isS, noTwice, putBack, Out.bind, Out.so, Out.opt, SO.seq, SO.opt, SO.ifb, putT_n, putT_t, puts_nil, puts_cons, putN_pt, stR_v, stR_f, pt_un, pt_val, pt_f, tab_runE, RV.d, List.replicate, ir_read_ratio, hs, hp, pS_str, h2]
theorem rr_some (k : Nat) {a b : List Nat} (h : 47 ∉ a) (hl : (a ++ 47 :: b).length ≤ 640) : runD DF (k + 3) 15 [.val (.str (mkS (a ++ 47 :: b)))] =
    (if gw a && gw b && rrB (valI a) (valI b) then .ok (.v (rD (valI a, valI b))) [.val (.str (mkS (a ++ 47 :: b)))] else .exc noText [.val (.str (mkS (a ++ 47 :: b)))]) := by
  have hla : a.length ≤ 640 := by rw [List.length_append] at hl; omega
  have hlb : b.length ≤ 640 := by rw [List.length_append, List.length_cons] at hl; omega
  obtain ⟨a1, a2⟩ := read_whole_run (k + 1) a hla
  obtain ⟨b1, b2⟩ := read_whole_run (k + 1) b hlb
  have hp := part_some (b := b) h (by omega)
  have hs := is_str (a ++ 47 :: b)
  have ht : pTup [.int (valI a), .int (valI b)] = some (rD (valI a, valI b)) := rfl
  generalize hL : a ++ 47 :: b = l at *
  cases ha : gw a with
  | false =>
    have a2 := a2 ha
    refine exc_of (e := [.val (.str (mkS l)), .val (.str (mkS a)), .val (.str (mkS [47])), .val (.str (mkS b)), .un]) 1 5 ir_read_ratio rfl rfl rfl rfl ?_ rfl
    simp [exS, evr, ev, evs, eva, evi, rdV, callF, mkArgs, mkArg, isS, noTwice, putBack, Out.bind, Out.so, Out.opt, SO.seq, SO.opt, SO.ifb, putT_n, putT_t, puts_nil, puts_cons, putN_pt, stR_v, stR_f, pt_un, pt_val, pt_f, tab_runE, RV.d, List.replicate, ir_read_ratio, hs, hp, pS_str, a2]
  | true =>
    have a1 := a1 ha
    cases hb : gw b with
    | false =>
      have b2 := b2 hb
      refine exc_of (e := [.val (.str (mkS l)), .val (.str (mkS a)), .val (.str (mkS [47])), .val (.str (mkS b)), .un]) 1 5 ir_read_ratio rfl rfl rfl rfl ?_ rfl
      simp [exS, evr, ev, evs, eva, evi, rdV, callF, mkArgs, mkArg, isS, noTwice, putBack, Out.bind, Out.so, Out.opt, SO.seq, SO.opt, SO.ifb, putT_n, putT_t, puts_nil, puts_cons, putN_pt, stR_v, stR_f, pt_un, pt_val, pt_f, tab_runE, RV.d, List.replicate, ir_read_ratio, hs, hp, pS_str, a1, b2, s_empty, n_str, mkS_eq]
    | true =>
      have b1 := b1 hb
      have hi := isr_ok k (valI a) (valI b) ((val_bd hb hlb).mono (by omega))
      cases hr : rrB (valI a) (valI b) with
      | true =>
        simp only [rrB, Bool.and_eq_true, decide_eq_true_eq, Bool.not_eq_true', decide_eq_false_iff_not] at hr
        obtain ⟨⟨r1, r2⟩, r3⟩ := hr
        refine ret_of (e := [.val (.str (mkS l)), .val (.str (mkS a)), .val (.str (mkS [47])), .val (.str (mkS b)), .val (rD (valI a, valI b))]) 1 5 ir_read_ratio rfl rfl rfl rfl ?_ rfl
        simp [exS, evr, ev, evs, eva, evi, rdV, callF, mkArgs, mkArg, isS, noTwice, putBack, Out.bind, Out.so, Out.opt, SO.seq, SO.opt, SO.ifb, putT_n, putT_t, puts_nil, puts_cons, putN_pt, stR_v, stR_f, pt_un, pt_val, pt_f, tab_runE, RV.d, List.replicate, ir_read_ratio, hs, hp, pS_str, a1, b1, s_empty, n_str, mkS_eq, ht, hi, r1, r2, r3, ix1, e_int]
      | false =>
        refine exc_of (e := [.val (.str (mkS l)), .val (.str (mkS a)), .val (.str (mkS [47])), .val (.str (mkS b)), .val (rD (valI a, valI b))]) 1 5 ir_read_ratio rfl rfl rfl rfl ?_ rfl
        generalize valI b = vb at *
        by_cases r3 : vb = 1
        · subst r3
          by_cases r2 : gcdI (valI a) 1 = 1 <;> simp [exS, evr, ev, evs, eva, evi, rdV, callF, mkArgs, mkArg, isS, noTwice, putBack, Out.bind, Out.so, Out.opt, SO.seq, SO.opt, SO.ifb, putT_n, putT_t, puts_nil, puts_cons, putN_pt, stR_v, stR_f, pt_un, pt_val, pt_f, tab_runE, RV.d, List.replicate, ir_read_ratio, hs, hp, pS_str, a1, b1, s_empty, n_str, mkS_eq, ht, hi, r2, ix1, e_int, pChk, chk0, noText]
        · by_cases r1 : 0 < vb <;> by_cases r2 : gcdI (valI a) vb = 1 <;> simp [rrB, r1, r2, r3] at hr <;>
            simp [exS, evr, ev, evs, eva, evi, rdV, callF, mkArgs, mkArg, isS, noTwice, putBack, Out.bind, Out.so, Out.opt, SO.seq, SO.opt, SO.ifb, putT_n, putT_t, puts_nil, puts_cons, putN_pt, stR_v, stR_f, pt_un, pt_val, pt_f, tab_runE, RV.d, List.replicate, ir_read_ratio, hs, hp, pS_str, a1, b1, s_empty, n_str, mkS_eq, ht, hi, r1, r2, r3, ix1, e_int, pChk, chk0, noText]
end Lw

set_option Elab.async false
set_option linter.all false
set_option maxRecDepth 100000
namespace Lw
open PySem L2 Eng TL
theorem sub11 : (tabD DF 0).sub 1 1 = true := rfl
theorem hnd_ok (T : Tab) (x y : D) : exS T (hndS 2 "<" ">" (some (.int 0))) [.val x, .val y, .un] = .ret (.v (.str "<0>")) [.val x, .val y, .val .non] := by rfl
/-- try of a call: what is read, or <0> -/
theorem law_read_ok (k : Nat) (j : Nat) (f : Nat) (x r : D) (hf : pIx [.lst [.fn 1, .fn 15], .int j] = some (.fn f)) (hlt : f < 27) (h : runD DF (k + 1) f [.val x] = .ok (.v r) [.val x]) :
    runD DF (k + 2) 21 [.val (.int j), .val x] = .ok (.v r) [.val (.int j), .val x] := by
  have hl : pLst [.fn 1, .fn 15] = some (.lst [.fn 1, .fn 15]) := rfl
  have hn : (tabD DF (k + 1)).nf = 27 := rfl
  refine ret_of (e := [.val (.int j), .val x, .un]) 2 3 ir__law_read rfl rfl rfl rfl ?_ rfl
  have hge : ¬ 27 ≤ f := by omega
  simp [exS, evr, ev, evs, eva, evi, rdV, callF, mkArgs, mkArg, isS, noTwice, putBack, Out.bind, Out.so, Out.opt, SO.seq, SO.opt, SO.ifb, putT_n, putT_t, puts_nil, puts_cons, putN_pt, stR_v, stR_f, pt_un, pt_val, pt_f, tab_runE, RV.d, List.replicate, ir__law_read, hl, hf, hn, hge, h, SO.tr]
theorem law_read_no (k : Nat) (j : Nat) (f : Nat) (x : D) (hf : pIx [.lst [.fn 1, .fn 15], .int j] = some (.fn f)) (hlt : f < 27) (h : runD DF (k + 1) f [.val x] = .exc noText [.val x]) :
    runD DF (k + 2) 21 [.val (.int j), .val x] = .ok (.v (.str "<0>")) [.val (.int j), .val x] := by
  have hl : pLst [.fn 1, .fn 15] = some (.lst [.fn 1, .fn 15]) := rfl
  have hn : (tabD DF (k + 1)).nf = 27 := rfl
  have hs : (tabD DF (k + 1)).sub noText.cls 1 = true := rfl
  have hh := hnd_ok (tabD DF (k + 1)) (.int j) x
  refine ret_of (e := [.val (.int j), .val x, .un]) 2 3 ir__law_read rfl rfl rfl rfl ?_ rfl
  have hb : exS (tabD DF (k + 1)) (.ret (.val (.dcall (.prim pIx (.cons (.prim pLst (.cons (.c (.fn 1)) (.cons (.c (.fn 15)) (.nil)))) (.cons (.v 0) .nil))) (.e (.v 1) (.nil))))) [.val (.int j), .val x, .un] = .exc noText [.val (.int j), .val x, .un] := by
    have hge : ¬ 27 ≤ f := by omega
    simp [exS, evr, ev, evs, eva, evi, rdV, callF, mkArgs, mkArg, isS, noTwice, putBack, Out.bind, Out.so, Out.opt, SO.seq, SO.opt, SO.ifb, putT_n, putT_t, puts_nil, puts_cons, putN_pt, stR_v, stR_f, pt_un, pt_val, pt_f, tab_runE, RV.d, List.replicate, hl, hf, hn, hge, h]
  show (SO.tr (exS (tabD DF (k + 1)) (.ret (.val (.dcall (.prim pIx (.cons (.prim pLst (.cons (.c (.fn 1)) (.cons (.c (.fn 15)) (.nil)))) (.cons (.v 0) .nil))) (.e (.v 1) (.nil))))) [.val (.int j), .val x, .un]) fun y e1 => if (tabD DF (k + 1)).sub y.cls 1 then ((exS (tabD DF (k + 1)) (hndS 2 "<" ">" y.arg) (wipeS e1 [2])).nox).wp [2] else .exc y e1) = _
  rw [hb]
  simp only [SO.tr]
  rw [hs, if_pos rfl]
  show SO.wp [2] (SO.nox (exS (tabD DF (k + 1)) (hndS 2 "<" ">" (some (.int 0))) [.val (.int j), .val x, .un])) = _
  rw [hh]
  rfl
/-- text that is read as a whole number: by the program, by the law -/
def whT (l : List Nat) : D := if gw l then .int (valI l) else .str "<0>"
theorem read0 (k : Nat) (l : List Nat) (hl : l.length ≤ 640) : runD DF (k + 2) 21 [.val (.int 0), .val (.str (mkS l))] = .ok (.v (whT l)) [.val (.int 0), .val (.str (mkS l))] := by
  obtain ⟨h1, h2⟩ := read_whole_run k l hl
  unfold whT
  cases h : gw l with
  | true => exact law_read_ok k 0 1 _ _ rfl (by omega) (h1 h)
  | false => exact law_read_no k 0 1 _ rfl (by omega) (h2 h)
/-- .. as a fraction -/
def rr (l : List Nat) : Option (Int × Int) := match spl [47] 0 [] l with
  | [a] => if gw a then some (valI a, 1) else none
  | [a, b] => if gw a && gw b && rrB (valI a) (valI b) then some (valI a, valI b) else none
  | _ => none
def frT (l : List Nat) : D := match rr l with
  | some p => rD p
  | none => .str "<0>"
theorem gw_no47 {l : List Nat} (h : 47 ∈ l) : gw l = false := by
  cases hg : gw l with
  | false => rfl
  | true =>
    rw [gw_iff] at hg
    simp only [Bool.and_eq_true] at hg
    have hd := allD hg.2.1
    have hm : 47 ∈ bodyL l := by
      unfold bodyL
      split
      · rename_i ht
        have := List.take_append_drop 1 l
        rw [ht] at this
        rw [← this] at h
        rcases List.mem_append.mp h with z | z
        · simp at z
        · exact z
      · exact h
    have := hd 47 hm
    omega
theorem read1 (k : Nat) (l : List Nat) (hl : l.length ≤ 640) : runD DF (k + 4) 21 [.val (.int 1), .val (.str (mkS l))] = .ok (.v (frT l)) [.val (.int 1), .val (.str (mkS l))] := by
  rcases cut47 l with h | ⟨a, b, rfl, h⟩
  · have hr := rr_none k h hl
    unfold frT rr
    rw [spl_none h]
    cases hg : gw l with
    | true => rw [hg, if_pos rfl] at hr; simp only [hg, if_true]; exact law_read_ok (k + 2) 1 15 _ _ rfl (by omega) hr
    | false => rw [hg, if_neg (by simp)] at hr; simp only [hg, Bool.false_eq_true, if_false]; exact law_read_no (k + 2) 1 15 _ rfl (by omega) hr
  · have hr := rr_some k (b := b) h hl
    have hspl := spl_some (b := b) h
    have key : ∀ o : Option (Int × Int), rr (a ++ 47 :: b) = o → (runD DF (k + 3) 15 [.val (.str (mkS (a ++ 47 :: b)))] = (match o with | some p => .ok (.v (rD p)) [.val (.str (mkS (a ++ 47 :: b)))] | none => .exc noText [.val (.str (mkS (a ++ 47 :: b)))])) →
        runD DF (k + 4) 21 [.val (.int 1), .val (.str (mkS (a ++ 47 :: b)))] = .ok (.v (frT (a ++ 47 :: b))) [.val (.int 1), .val (.str (mkS (a ++ 47 :: b)))] := fun o h1 h2 => by
      unfold frT
      rw [h1]
      cases o with
      | none => exact law_read_no (k + 2) 1 15 _ rfl (by omega) h2
      | some p => exact law_read_ok (k + 2) 1 15 _ _ rfl (by omega) h2
    rcases cut47 b with hb | ⟨b1, b2, rfl, hb⟩
    · have e : rr (a ++ 47 :: b) = if gw a && gw b && rrB (valI a) (valI b) then some (valI a, valI b) else none := by
        unfold rr
        rw [hspl, spl_none hb]
      refine key _ e ?_
      rw [hr]
      cases gw a && gw b && rrB (valI a) (valI b) <;> rfl
    · have e : rr (a ++ 47 :: (b1 ++ 47 :: b2)) = none := by
        unfold rr
        rw [hspl, spl_some hb]
        have := spl_ne b2
        cases hs : spl [47] 0 [] b2 with
        | nil => exact absurd hs this
        | cons x y => rfl
      refine key _ e ?_
      rw [hr, gw_no47 (l := b1 ++ 47 :: b2) (by simp)]
      simp
end Lw

set_option Elab.async false
set_option linter.all false
set_option maxRecDepth 100000
namespace Lw
open PySem L2 Eng TL
theorem fold_ge : ∀ (l : List Nat) (acc : Nat), acc * 10 ^ l.length ≤ l.foldl (fun acc c => acc * 10 + (c - 48)) acc
  | [], acc => by simp
  | c :: l, acc => by
    have ih := fold_ge l (acc * 10 + (c - 48))
    show _ ≤ l.foldl _ (acc * 10 + (c - 48))
    refine Nat.le_trans ?_ ih
    rw [List.length_cons, Nat.pow_succ, Nat.mul_comm (10 ^ l.length) 10, ← Nat.mul_assoc]
    exact Nat.mul_le_mul_right _ (by omega)
theorem digs_iff (l : List Nat) : digs l = true ↔ l ≠ [] ∧ l.all isDig = true ∧ (l = [48] ∨ l.head? ≠ some 48) := by
  unfold digs
  simp [Bool.and_eq_true]
theorem digs_val {b : List Nat} (h : digs b = true) : (b = [48] ∧ NumText.digitsVal b = 0) ∨ (b = [49] ∧ NumText.digitsVal b = 1) ∨ (b ≠ [48] ∧ b ≠ [49] ∧ 2 ≤ NumText.digitsVal b) := by
  obtain ⟨h1, h2, h3⟩ := (digs_iff b).mp h
  by_cases h48 : b = [48]
  · left; subst h48; exact ⟨rfl, rfl⟩
  · have h3 := h3.resolve_left h48
    cases b with
    | nil => exact absurd rfl h1
    | cons c r =>
      have hc := allD h2 c (List.mem_cons_self ..)
      have hc48 : c ≠ 48 := by simpa using h3
      cases r with
      | nil =>
        by_cases h49 : c = 49
        · subst h49; right; left; exact ⟨rfl, rfl⟩
        · right; right
          refine ⟨h48, by simpa using h49, ?_⟩
          show 2 ≤ 0 * 10 + (c - 48)
          omega
      | cons d s =>
        right; right
        refine ⟨h48, by simp, ?_⟩
        have := fold_ge (d :: s) (0 * 10 + (c - 48))
        show 2 ≤ (d :: s).foldl (fun acc c => acc * 10 + (c - 48)) (0 * 10 + (c - 48))
        refine Nat.le_trans ?_ this
        have h10 : 10 ≤ 10 ^ (d :: s).length := by
          rw [List.length_cons, Nat.pow_succ]
          have : 0 < 10 ^ s.length := Nat.pow_pos (by omega)
          omega
        calc 2 ≤ 1 * 10 := by omega
          _ ≤ (0 * 10 + (c - 48)) * 10 ^ (d :: s).length := Nat.mul_le_mul (by omega) h10
theorem digs_plain {b : List Nat} (h : digs b = true) : b.take 1 ≠ [45] := by
  obtain ⟨h1, h2, _⟩ := (digs_iff b).mp h
  cases b with
  | nil => exact absurd rfl h1
  | cons c r =>
    have := allD h2 c (List.mem_cons_self ..)
    simp
    omega
theorem digs_gw {b : List Nat} (h : digs b = true) : gw b = true ∧ valI b = (NumText.digitsVal b : Nat) := by
  have hp := digs_plain h
  unfold gw bodyL valI
  rw [if_neg hp, if_neg hp, h]
  refine ⟨?_, rfl⟩
  have : b ≠ [45, 48] := fun z => hp (by rw [z]; rfl)
  simp [this]
theorem gw_pos {b : List Nat} (h : gw b = true) (hv : 0 < valI b) : digs b = true := by
  unfold valI at hv
  unfold gw bodyL at h
  by_cases ht : b.take 1 = [45]
  · rw [if_pos ht] at hv
    omega
  · rw [if_neg ht, Bool.and_eq_true] at h
    exact h.2
theorem low_id {a b : Int} (hb : 0 < b) : low a b = (a, b) ↔ gcdI a b = 1 := by
  have hg := gcdI_pos (n := a) (d := b) (by omega)
  have hv := gcdI_dvd a b
  unfold low
  rw [if_neg (by omega)]
  constructor
  · intro h
    have h2 : b.fdiv (gcdI a b) = b := congrArg Prod.snd h
    rw [Int.fdiv_eq_ediv_of_nonneg _ (by omega)] at h2
    have h3 := Int.mul_ediv_cancel' hv
    rw [h2] at h3
    have h4 : (gcdI a b - 1) * b = 0 := by rw [Int.sub_mul, h3]; omega
    rcases Int.mul_eq_zero.mp h4 with z | z <;> omega
  · intro h
    rw [h]
    simp
def gr (l : List Nat) : Bool := match spl [47] 0 [] l with
  | [a] => gw a
  | [a, b] => gw a && (digs b && (!(decide (b = [48]) || decide (b = [49])) && decide (low (valI a) (valI b) = (valI a, valI b))))
  | _ => false
theorem gr_rr (l : List Nat) : gr l = (rr l).isSome := by
  unfold gr rr
  generalize spl [47] 0 [] l = ps
  match ps with
  | [] => rfl
  | _ :: _ :: _ :: _ => rfl
  | [a] =>
    show gw a = (if gw a then some (valI a, (1 : Int)) else none).isSome
    cases gw a <;> rfl
  | [a, b] =>
    show (gw a && (digs b && (!(decide (b = [48]) || decide (b = [49])) && decide (low (valI a) (valI b) = (valI a, valI b))))) = (if gw a && gw b && rrB (valI a) (valI b) then some (valI a, valI b) else none).isSome
    cases ha : gw a with
    | false => simp
    | true =>
      cases hd : digs b with
      | false =>
        have : (gw b && rrB (valI a) (valI b)) = false := by
          cases hb : gw b with
          | false => rfl
          | true =>
            cases hr : rrB (valI a) (valI b) with
            | false => rfl
            | true =>
              simp only [rrB, Bool.and_eq_true, decide_eq_true_eq] at hr
              rw [gw_pos hb hr.1.1] at hd
              cases hd
        simp [this]
      | true =>
        obtain ⟨hg, hv⟩ := digs_gw hd
        rcases digs_val hd with ⟨h1, h2⟩ | ⟨h1, h2⟩ | ⟨h1, h3, h2⟩
        · have : valI b = 0 := by rw [hv, h2]; rfl
          subst h1
          simp [rrB, hg, this]
        · have : valI b = 1 := by rw [hv, h2]; rfl
          subst h1
          simp [rrB, hg, this]
        · have hpos : 0 < valI b := by rw [hv]; omega
          have hn1 : valI b ≠ 1 := by rw [hv]; omega
          have hl := low_id (a := valI a) hpos
          by_cases hq : gcdI (valI a) (valI b) = 1
          · simp [rrB, hg, hpos, hn1, h1, h3, hq, hl.mpr hq]
          · simp [rrB, hg, hpos, hn1, h1, h3, hq, mt hl.mp hq]
theorem strOk_digs {b : List Nat} (h : digs b = true) : (D.str (mkS b)).shp = true := by
  obtain ⟨_, h2, _⟩ := (digs_iff b).mp h
  have hd := allD h2
  show (true && (PyData.canLay0 (.str (mkS b)) && decide ((PyData.str (mkS b)).depth ≤ 64))) = true
  have e : PyData.canLay0 (.str (mkS b)) = true := by
    show (mkS b).cps.all (· < 0x110000) = true
    rw [Array.all_eq_true']
    intro c hc
    have := hd c (by simpa [mkS] using hc)
    simp
    omega
  rw [e]
  rfl
theorem in01 {b : List Nat} (h : digs b = true) : pIn [.str (mkS b), .lst [.str "0", .str "1"]] = some (.bl (decide (b = [48]) || decide (b = [49]))) := by
  have h1 := strOk_digs h
  have h2 : (D.lst [.str "0", .str "1"]).shp = true := by decide +kernel
  show (if ((D.str (mkS b)).shp && (D.lst [.str "0", .str "1"]).shp) = true then some (D.bl ([D.str "0", D.str "1"].any fun z => z.eqv (.str (mkS b)))) else none) = _
  rw [h1, h2]
  have e1 : (D.str "0").eqv (.str (mkS b)) = decide (b = [48]) := by
    show (("0" : Str) == mkS b) = _
    rw [s_0, mkS_eq]
    by_cases h : b = [48] <;> simp [h, eq_comm]
  have e2 : (D.str "1").eqv (.str (mkS b)) = decide (b = [49]) := by
    show (("1" : Str) == mkS b) = _
    rw [s_1, mkS_eq]
    by_cases h : b = [49] <;> simp [h, eq_comm]
  simp [e1, e2]
end Lw

set_option Elab.async false
set_option linter.all false
set_option maxRecDepth 100000
namespace Lw
open PySem L2 Eng TL
theorem splL (l : List Nat) (hl : l.length + 2 ≤ 16777216) (ps : List (List Nat)) (h : spl [47] 0 [] l = ps) : pSplit [.str (mkS l), .str "/"] = some (.lst (ps.map fun x => .str (mkS x))) := by
  rw [← h]; exact splitS l hl
theorem lenL (xs : List D) : pLen [.lst xs] = some (.int xs.length) := rfl
theorem ixL0 (x : D) (xs : List D) : pIx [.lst (x :: xs), .int 0] = some x := by
  show atI (x :: xs) 0 = _
  simp [atI, ixN]
theorem ixL1 (x y : D) (xs : List D) : pIx [.lst (x :: y :: xs), .int 1] = some y := by
  show atI (x :: y :: xs) 1 = _
  have h : (1 : Int) < (xs.length : Int) + 1 + 1 := by omega
  simp [atI, ixN, h]
theorem parts_len : ∀ (l : List Nat) (a b : List Nat), l = a ++ 47 :: b → a.length ≤ l.length ∧ b.length ≤ l.length := fun l a b h => by
  subst h
  rw [List.length_append, List.length_cons]
  omega
theorem good_ratio_ok (k : Nat) (l : List Nat) (hl : l.length ≤ 640) : runD DF (k + 3) 25 [.val (.str (mkS l))] = .ok (.v (.bl (gr l))) [.val (.str (mkS l))] := by
  have hs := is_str l
  rcases cut47 l with h | ⟨a, b, hL, h⟩
  · have hp := splL l (by omega) _ (spl_none h)
    have hg := good_whole_ok k l (by omega)
    have e : gr l = gw l := by unfold gr; rw [spl_none h]
    refine ret_of (e := [.val (.str (mkS l)), .val (.lst [.str (mkS l)])]) 1 2 ir__law_good_ratio rfl rfl rfl rfl ?_ rfl
    rw [e]
    simp [exS, evr, ev, evs, eva, evi, rdV, callF, mkArgs, mkArg, isS, noTwice, putBack, Out.bind, Out.so, Out.opt, SO.seq, SO.opt, SO.ifb, putT_n, putT_t, puts_nil, puts_cons, putN_pt, stR_v, stR_f, pt_un, pt_val, pt_f, tab_runE, RV.d, List.replicate, ir__law_good_ratio, hs, pS_str, hp, lenL, e_int, hg]
  · obtain ⟨la, lb⟩ := parts_len l a b hL
    have sp := spl_some (b := b) h
    rw [← hL] at sp
    have ga := good_whole_ok k a (by omega)
    have db := digits_ok (k + 1) b (by omega)
    rcases cut47 b with hb | ⟨b1, b2, rfl, hb⟩
    · rw [spl_none hb] at sp
      have hp := splL l (by omega) _ sp
      have e : gr l = (gw a && (digs b && (!(decide (b = [48]) || decide (b = [49])) && decide (low (valI a) (valI b) = (valI a, valI b))))) := by unfold gr; rw [sp]
      refine ret_of (e := [.val (.str (mkS l)), .val (.lst [.str (mkS a), .str (mkS b)])]) 1 2 ir__law_good_ratio rfl rfl rfl rfl ?_ rfl
      rw [e]
      cases hga : gw a with
      | false => simp [exS, evr, ev, evs, eva, evi, rdV, callF, mkArgs, mkArg, isS, noTwice, putBack, Out.bind, Out.so, Out.opt, SO.seq, SO.opt, SO.ifb, putT_n, putT_t, puts_nil, puts_cons, putN_pt, stR_v, stR_f, pt_un, pt_val, pt_f, tab_runE, RV.d, List.replicate, ir__law_good_ratio, hs, pS_str, hp, lenL, e_int, n_int, ixL0, ixL1, ga, hga]
      | true =>
        cases hdb : digs b with
        | false => simp [exS, evr, ev, evs, eva, evi, rdV, callF, mkArgs, mkArg, isS, noTwice, putBack, Out.bind, Out.so, Out.opt, SO.seq, SO.opt, SO.ifb, putT_n, putT_t, puts_nil, puts_cons, putN_pt, stR_v, stR_f, pt_un, pt_val, pt_f, tab_runE, RV.d, List.replicate, ir__law_good_ratio, hs, pS_str, hp, lenL, e_int, n_int, ixL0, ixL1, ga, hga, db, hdb]
        | true =>
          have hin := in01 hdb
          have hl2 : pLst [.str "0", .str "1"] = some (.lst [.str "0", .str "1"]) := rfl
          cases h01 : (decide (b = [48]) || decide (b = [49])) with
          | true =>
            rw [h01] at hin
            simp [exS, evr, ev, evs, eva, evi, rdV, callF, mkArgs, mkArg, isS, noTwice, putBack, Out.bind, Out.so, Out.opt, SO.seq, SO.opt, SO.ifb, putT_n, putT_t, puts_nil, puts_cons, putN_pt, stR_v, stR_f, pt_un, pt_val, pt_f, tab_runE, RV.d, List.replicate, ir__law_good_ratio, hs, pS_str, hp, lenL, e_int, n_int, ixL0, ixL1, ga, hga, db, hdb, hin, hl2]
          | false =>
            rw [h01] at hin
            have hn : b ≠ [48] := fun z => by rw [z] at h01; exact absurd h01 (by decide)
            obtain ⟨hgb, hvb⟩ := digs_gw hdb
            have ia := gw_int hga (by omega)
            have ib := gw_int hgb (by omega)
            have hpos : valI b ≠ 0 := by
              rcases digs_val hdb with ⟨z, _⟩ | ⟨z, w⟩ | ⟨_, _, w⟩
              · exact absurd z hn
              · rw [hvb, w]; decide
              · rw [hvb]; omega
            have hlw := law_low (k + 1) (valI a) (valI b) hpos ((val_bd hgb (by omega)).mono (by omega))
            have ht : pTup [.int (valI a), .int (valI b)] = some (rD (valI a, valI b)) := rfl
            have he := e_r (low (valI a) (valI b)) (valI a, valI b)
            simp [exS, evr, ev, evs, eva, evi, rdV, callF, mkArgs, mkArg, isS, noTwice, putBack, Out.bind, Out.so, Out.opt, SO.seq, SO.opt, SO.ifb, putT_n, putT_t, puts_nil, puts_cons, putN_pt, stR_v, stR_f, pt_un, pt_val, pt_f, tab_runE, RV.d, List.replicate, ir__law_good_ratio, hs, pS_str, hp, lenL, e_int, n_int, ixL0, ixL1, ga, hga, db, hdb, hin, hl2, ia, ib, hlw, ht, he]
    · rw [spl_some hb] at sp
      have hne := spl_ne b2
      obtain ⟨x, y, hxy⟩ : ∃ x y, spl [47] 0 [] b2 = x :: y := by
        cases hh : spl [47] 0 [] b2 with
        | nil => exact absurd hh hne
        | cons x y => exact ⟨x, y, rfl⟩
      rw [hxy] at sp
      have hp := splL l (by omega) _ sp
      have e : gr l = false := by unfold gr; rw [sp]
      refine ret_of (e := [.val (.str (mkS l)), .val (.lst ((a :: b1 :: x :: y).map fun x => .str (mkS x)))]) 1 2 ir__law_good_ratio rfl rfl rfl rfl ?_ rfl
      rw [e]
      have h1 : ¬ ((((a :: b1 :: x :: y).map fun x => D.str (mkS x)).length : Int) = 1) := by simp; omega
      have h2 : ¬ ((((a :: b1 :: x :: y).map fun x => D.str (mkS x)).length : Int) = 2) := by simp; omega
      generalize ((a :: b1 :: x :: y).map fun x => D.str (mkS x)) = L at hp h1 h2
      simp [exS, evr, ev, evs, eva, evi, rdV, callF, mkArgs, mkArg, isS, noTwice, putBack, Out.bind, Out.so, Out.opt, SO.seq, SO.opt, SO.ifb, putT_n, putT_t, puts_nil, puts_cons, putN_pt, stR_v, stR_f, pt_un, pt_val, pt_f, tab_runE, RV.d, List.replicate, ir__law_good_ratio, hs, pS_str, hp, lenL, e_int, n_int, h1, h2]
end Lw

set_option Elab.async false
set_option linter.all false
set_option maxRecDepth 100000
namespace Lw
open PySem L2 Eng TL
theorem slash_in (l : List Nat) : pIn [.str "/", .str (mkS l)] = some (.bl (decide (47 ∈ l))) := by
  show some (D.bl (!(Builtin.Str.occurrences (mkS l) "/" 0 (mkS l).length 1).isEmpty)) = _
  have h : ("/" : Str) = ⟨#[47]⟩ := s_slash
  rw [h, PySem.StrLaws.found_one]
  rfl
theorem one_slash {l a b : List Nat} (sp : spl [47] 0 [] l = [a, b]) (h : gr l = true) : rr l = some (valI a, valI b) ∧ gw a = true ∧ gw b = true := by
  rw [gr_rr] at h
  unfold rr at h ⊢
  rw [sp] at h ⊢
  have h : (if (gw a && gw b && rrB (valI a) (valI b)) = true then some (valI a, valI b) else none).isSome = true := h
  show (if (gw a && gw b && rrB (valI a) (valI b)) = true then some (valI a, valI b) else none) = some (valI a, valI b) ∧ _
  by_cases hc : (gw a && gw b && rrB (valI a) (valI b)) = true
  · rw [if_pos hc]
    simp only [Bool.and_eq_true] at hc
    exact ⟨rfl, hc.1.1, hc.1.2⟩
  · rw [if_neg hc] at h
    cases h
theorem n_same_i (i : Int) : pNe [.int i, .int i] = some (.bl false) := by rw [n_int]; simp
theorem n_same_s (i : Str) : pNe [.str i, .str i] = some (.bl false) := by rw [n_str]; simp
theorem n_same_r (p : Int × Int) : pNe [rD p, rD p] = some (.bl false) := by rw [n_r]; simp
section
variable (k : Nat) (s0 s1 s2 s3 s4 s5 s6 s7 s8 s9 s10 s11 s12 s14 : Slo)
theorem text_body (l : List Nat) (hl : l.length ≤ 640) (h14 : Fre s14) :
    exS (tabD DF (k + 4)) lb_law_4 [s0, s1, s2, s3, s4, s5, s6, s7, s8, s9, s10, s11, s12, .val (.str (mkS l)), s14] = .nx [s0, s1, s2, s3, s4, s5, s6, s7, s8, s9, s10, s11, s12, .val (.str (mkS l)), .val (.bl (gr l))] := by
  have r0 := read0 (k + 2) l hl
  have r1 := read1 k l hl
  have g0 := good_whole_ok (k + 2) l (by omega)
  have g1 := good_ratio_ok (k + 1) l hl
  have hs := is_str l
  have hin := slash_in l
  have first : ∀ e : Sls, e[13]? = some (.val (.str (mkS l))) → ev (tabD DF (k + 4)) (.prim pNe (.cons (.call 21 (.e (.c (.int 0)) (.e (.v 13) (.nil)))) (.cons (.ite (.call 24 (.e (.v 13) (.nil))) (.prim pInt (.cons (.v 13) (.nil))) (.c (.str "<0>"))) .nil))) e = .ok (.bl false) e := fun e he => by
    cases hg : gw l with
    | true =>
      have hi := gw_int hg hl
      simp [exS, evr, ev, evs, eva, evi, rdV, callF, mkArgs, mkArg, isS, noTwice, putBack, Out.bind, Out.so, Out.opt, SO.seq, SO.opt, SO.ifb, putT_n, putT_t, puts_nil, puts_cons, putN_pt, stR_v, stR_f, pt_un, pt_val, pt_f, tab_runE, RV.d, List.replicate, he, r0, g0, hg, hi, whT, n_same_i]
    | false => simp [exS, evr, ev, evs, eva, evi, rdV, callF, mkArgs, mkArg, isS, noTwice, putBack, Out.bind, Out.so, Out.opt, SO.seq, SO.opt, SO.ifb, putT_n, putT_t, puts_nil, puts_cons, putN_pt, stR_v, stR_f, pt_un, pt_val, pt_f, tab_runE, RV.d, List.replicate, he, r0, g0, hg, whT, n_same_s]
  have second : ∀ e : Sls, e[13]? = some (.val (.str (mkS l))) → e[14]? = some (.val (.bl (gr l))) → ev (tabD DF (k + 4)) (.prim pNe (.cons (.call 21 (.e (.c (.int 1)) (.e (.v 13) (.nil)))) (.cons (.ite (.not (.v 14)) (.c (.str "<0>")) (.prim pTup (.cons (.prim pInt (.cons (.prim pIx (.cons (.prim pSplit (.cons (.prim pS (.cons (.v 13) .nil)) (.cons (.c (.str "/")) .nil))) (.cons (.c (.int 0)) .nil))) (.nil))) (.cons (.ite (.prim pIn (.cons (.c (.str "/")) (.cons (.v 13) .nil))) (.prim pInt (.cons (.prim pIx (.cons (.prim pSplit (.cons (.prim pS (.cons (.v 13) .nil)) (.cons (.c (.str "/")) .nil))) (.cons (.c (.int 1)) .nil))) (.nil))) (.c (.int 1))) (.nil))))) .nil))) e = .ok (.bl false) e := fun e he he2 => by
    cases hg : gr l with
    | false =>
      have hr : rr l = none := by
        have := gr_rr l
        rw [hg] at this
        cases h : rr l with
        | none => rfl
        | some p => rw [h] at this; cases this
      rw [hg] at he2
      have hf : frT l = .str "<0>" := by unfold frT; rw [hr]
      rw [hf] at r1
      simp [exS, evr, ev, evs, eva, evi, rdV, callF, mkArgs, mkArg, isS, noTwice, putBack, Out.bind, Out.so, Out.opt, SO.seq, SO.opt, SO.ifb, putT_n, putT_t, puts_nil, puts_cons, putN_pt, stR_v, stR_f, pt_un, pt_val, pt_f, tab_runE, RV.d, List.replicate, he, he2, r1, n_same_s]
    | true =>
      rw [hg] at he2
      rcases cut47 l with h | ⟨a, b, hL, h⟩
      · have sp := spl_none h
        have hp := splL l (by omega) _ sp
        have e1 : gr l = gw l := by unfold gr; rw [sp]
        have hgw : gw l = true := by rw [← e1]; exact hg
        have hf : frT l = rD (valI l, 1) := by unfold frT rr; rw [sp]; simp only [hgw, if_true]
        have hi := gw_int hgw hl
        have ht : pTup [.int (valI l), .int 1] = some (rD (valI l, 1)) := rfl
        rw [hf] at r1
        simp [exS, evr, ev, evs, eva, evi, rdV, callF, mkArgs, mkArg, isS, noTwice, putBack, Out.bind, Out.so, Out.opt, SO.seq, SO.opt, SO.ifb, putT_n, putT_t, puts_nil, puts_cons, putN_pt, stR_v, stR_f, pt_un, pt_val, pt_f, tab_runE, RV.d, List.replicate, he, he2, r1, pS_str, hp, ixL0, hi, hin, h, ht, n_same_r]
      · obtain ⟨la, lb⟩ := parts_len l a b hL
        have sp := spl_some (b := b) h
        rw [← hL] at sp
        have hm : 47 ∈ l := by rw [hL]; simp
        rcases cut47 b with hb | ⟨b1, b2, rfl, hb⟩
        · rw [spl_none hb] at sp
          obtain ⟨hr, ga, gb⟩ := one_slash sp hg
          have hp := splL l (by omega) _ sp
          have hf : frT l = rD (valI a, valI b) := by unfold frT; rw [hr]
          have ia := gw_int ga (by omega)
          have ib := gw_int gb (by omega)
          have ht : pTup [.int (valI a), .int (valI b)] = some (rD (valI a, valI b)) := rfl
          rw [hf] at r1
          simp [exS, evr, ev, evs, eva, evi, rdV, callF, mkArgs, mkArg, isS, noTwice, putBack, Out.bind, Out.so, Out.opt, SO.seq, SO.opt, SO.ifb, putT_n, putT_t, puts_nil, puts_cons, putN_pt, stR_v, stR_f, pt_un, pt_val, pt_f, tab_runE, RV.d, List.replicate, he, he2, r1, pS_str, hp, ixL0, ixL1, ia, ib, hin, hm, ht, n_same_r]
        · exfalso
          rw [spl_some hb] at sp
          have hne := spl_ne b2
          unfold gr at hg
          rw [sp] at hg
          cases hh : spl [47] 0 [] b2 with
          | nil => exact absurd hh hne
          | cons x y => rw [hh] at hg; cases hg
  have hir : lb_law_4 = .seq (.ife (.prim pNe (.cons (.call 21 (.e (.c (.int 0)) (.e (.v 13) (.nil)))) (.cons (.ite (.call 24 (.e (.v 13) (.nil))) (.prim pInt (.cons (.v 13) (.nil))) (.c (.str "<0>"))) .nil))) (.ret (.val (.c (.bl false)))) (.nop)) (.seq (.put (.n 14) (.call 25 (.e (.v 13) (.nil)))) (.ife (.prim pNe (.cons (.call 21 (.e (.c (.int 1)) (.e (.v 13) (.nil)))) (.cons (.ite (.not (.v 14)) (.c (.str "<0>")) (.prim pTup (.cons (.prim pInt (.cons (.prim pIx (.cons (.prim pSplit (.cons (.prim pS (.cons (.v 13) .nil)) (.cons (.c (.str "/")) .nil))) (.cons (.c (.int 0)) .nil))) (.nil))) (.cons (.ite (.prim pIn (.cons (.c (.str "/")) (.cons (.v 13) .nil))) (.prim pInt (.cons (.prim pIx (.cons (.prim pSplit (.cons (.prim pS (.cons (.v 13) .nil)) (.cons (.c (.str "/")) .nil))) (.cons (.c (.int 1)) .nil))) (.nil))) (.c (.int 1))) (.nil))))) .nil))) (.ret (.val (.c (.bl false)))) (.nop))) := rfl
  have hput : exS (tabD DF (k + 4)) (.put (.n 14) (.call 25 (.e (.v 13) (.nil)))) [s0, s1, s2, s3, s4, s5, s6, s7, s8, s9, s10, s11, s12, .val (.str (mkS l)), s14] = .nx [s0, s1, s2, s3, s4, s5, s6, s7, s8, s9, s10, s11, s12, .val (.str (mkS l)), .val (.bl (gr l))] := by
    have hf := h14.pt
    simp [exS, evr, ev, evs, eva, evi, rdV, callF, mkArgs, mkArg, isS, noTwice, putBack, Out.bind, Out.so, Out.opt, SO.seq, SO.opt, SO.ifb, putT_n, putT_t, puts_nil, puts_cons, putN_pt, stR_v, stR_f, pt_un, pt_val, pt_f, tab_runE, RV.d, List.replicate, g1, hf]
  have f1 := first [s0, s1, s2, s3, s4, s5, s6, s7, s8, s9, s10, s11, s12, .val (.str (mkS l)), s14] rfl
  have f2 := second [s0, s1, s2, s3, s4, s5, s6, s7, s8, s9, s10, s11, s12, .val (.str (mkS l)), .val (.bl (gr l))] rfl rfl
  rw [hir]
  have step : ∀ (c : IE) (e : Sls), ev (tabD DF (k + 4)) c e = .ok (.bl false) e → exS (tabD DF (k + 4)) (.ife c (.ret (.val (.c (.bl false)))) .nop) e = .nx e := fun c e h => by
    simp only [exS, h, Out.so, SO.ifb]
  have sq : ∀ (a b : IS) (e e1 : Sls), exS (tabD DF (k + 4)) a e = .nx e1 → exS (tabD DF (k + 4)) (.seq a b) e = exS (tabD DF (k + 4)) b e1 := fun a b e e1 h => by
    simp only [exS, h, SO.seq]
  rw [sq _ _ _ _ (step _ _ f1), sq _ _ _ _ hput, step _ _ f2]
end
end Lw

set_option Elab.async false
set_option linter.all false
set_option maxRecDepth 100000
namespace Lw
open PySem L2 Eng TL
theorem ife_no {T : Tab} {c : IE} {e : Sls} (h : ev T c e = .ok (.bl false) e) : exS T (.ife c (.ret (.val (.c (.bl false)))) .nop) e = .nx e := by
  simp only [exS, h, Out.so, SO.ifb]
theorem seq_nx {T : Tab} {a b : IS} {e e1 : Sls} (h : exS T a e = .nx e1) : exS T (.seq a b) e = exS T b e1 := by
  simp only [exS, h, SO.seq]
section
variable (k : Nat) (s0 s1 s2 s3 s4 s5 s6 s7 s8 s9 s10 s11 s12 s13 s14 : Slo)
theorem text_non (h14 : Fre s14) :
    exS (tabD DF (k + 5)) lb_law_4 [s0, s1, s2, s3, s4, s5, s6, s7, s8, s9, s10, s11, s12, .val .non, s14] = .nx [s0, s1, s2, s3, s4, s5, s6, s7, s8, s9, s10, s11, s12, .val .non, .val (.bl false)] := by
  have g1 : runD DF (k + 5) 25 [.val .non] = .ok (.v (.bl false)) [.val .non] := rfl
  have h14 := h14.pt
  refine Eq.trans (seq_nx (ife_no ?_)) (Eq.trans (seq_nx (e1 := [s0, s1, s2, s3, s4, s5, s6, s7, s8, s9, s10, s11, s12, .val .non, .val (.bl false)]) ?_) (ife_no ?_))
  · rfl
  · simp [exS, evr, ev, evs, eva, evi, rdV, callF, mkArgs, mkArg, isS, noTwice, putBack, Out.bind, Out.so, Out.opt, SO.seq, SO.opt, SO.ifb, putT_n, putT_t, puts_nil, puts_cons, putN_pt, stR_v, stR_f, pt_un, pt_val, pt_f, tab_runE, RV.d, List.replicate, g1, h14]
  · rfl
theorem text_five (h14 : Fre s14) :
    exS (tabD DF (k + 5)) lb_law_4 [s0, s1, s2, s3, s4, s5, s6, s7, s8, s9, s10, s11, s12, .val (.int 5), s14] = .nx [s0, s1, s2, s3, s4, s5, s6, s7, s8, s9, s10, s11, s12, .val (.int 5), .val (.bl false)] := by
  have g1 : runD DF (k + 5) 25 [.val (.int 5)] = .ok (.v (.bl false)) [.val (.int 5)] := rfl
  have h14 := h14.pt
  refine Eq.trans (seq_nx (ife_no ?_)) (Eq.trans (seq_nx (e1 := [s0, s1, s2, s3, s4, s5, s6, s7, s8, s9, s10, s11, s12, .val (.int 5), .val (.bl false)]) ?_) (ife_no ?_))
  · rfl
  · simp [exS, evr, ev, evs, eva, evi, rdV, callF, mkArgs, mkArg, isS, noTwice, putBack, Out.bind, Out.so, Out.opt, SO.seq, SO.opt, SO.ifb, putT_n, putT_t, puts_nil, puts_cons, putN_pt, stR_v, stR_f, pt_un, pt_val, pt_f, tab_runE, RV.d, List.replicate, g1, h14]
  · rfl
/-- what the law reads -/
def okText (x : D) : Prop := x = .non ∨ x = .int 5 ∨ ∃ l, x = .str (mkS l) ∧ l.length ≤ 640
theorem text_loop : ∀ (items : List D), (∀ x ∈ items, okText x) → ∀ s13 s14, Fre s13 → Fre s14 → ∃ t13 t14, Fre t13 ∧ Fre t14 ∧
    evFor (Tg.put (.n 13)) (fun e => exS (tabD DF (k + 5)) lb_law_4 e) items [s0, s1, s2, s3, s4, s5, s6, s7, s8, s9, s10, s11, s12, s13, s14] = .nx [s0, s1, s2, s3, s4, s5, s6, s7, s8, s9, s10, s11, s12, t13, t14]
  | [], _, s13, s14, h1, h2 => ⟨s13, s14, h1, h2, rfl⟩
  | x :: xs, hx, s13, s14, h1, h2 => by
    have hput : Tg.put (.n 13) x [s0, s1, s2, s3, s4, s5, s6, s7, s8, s9, s10, s11, s12, s13, s14] = some [s0, s1, s2, s3, s4, s5, s6, s7, s8, s9, s10, s11, s12, .val x, s14] := by
      have h1 := h1.pt
      simp [putT_n, putN_pt, h1]
    have hb : ∃ b, exS (tabD DF (k + 5)) lb_law_4 [s0, s1, s2, s3, s4, s5, s6, s7, s8, s9, s10, s11, s12, .val x, s14] = .nx [s0, s1, s2, s3, s4, s5, s6, s7, s8, s9, s10, s11, s12, .val x, .val (.bl b)] := by
      rcases hx x (List.mem_cons_self ..) with rfl | rfl | ⟨l, rfl, hl⟩
      · exact ⟨_, text_non k s0 s1 s2 s3 s4 s5 s6 s7 s8 s9 s10 s11 s12 s14 h2⟩
      · exact ⟨_, text_five k s0 s1 s2 s3 s4 s5 s6 s7 s8 s9 s10 s11 s12 s14 h2⟩
      · exact ⟨_, text_body (k + 1) s0 s1 s2 s3 s4 s5 s6 s7 s8 s9 s10 s11 s12 s14 l hl h2⟩
    obtain ⟨b, hb⟩ := hb
    obtain ⟨t13, t14, f1, f2, ih⟩ := text_loop xs (fun y hy => hx y (List.mem_cons_of_mem _ hy)) (.val x) (.val (.bl b)) (fre_val _) (fre_val _)
    refine ⟨t13, t14, f1, f2, ?_⟩
    unfold evFor
    rw [hput]
    simp only [SO.putThen, hb, SO.loop]
    exact ih
/-- the values that are and are not ratios -/
theorem value_step (x : D) (b c t : Bool) (h5 : runD DF (k + 5) 5 [.val x] = .ok (.v (.bl b)) [.val x]) (he : pEq [x, rD (0, 1)] = some (.bl c)) (hi : pIsi "tuple" [x] = some (.bl t)) (hb : b = (c && t)) :
    exS (tabD DF (k + 5)) lb_law_3 [s0, s1, s2, s3, s4, s5, s6, s7, s8, s9, s10, .val x, s12, s13, s14] = .nx [s0, s1, s2, s3, s4, s5, s6, s7, s8, s9, s10, .val x, s12, s13, s14] := by
  refine ife_no ?_
  have ht : pTup [.int 0, .int 1] = some (rD (0, 1)) := rfl
  have hn : ∀ b : Bool, pNe [.bl b, .bl b] = some (.bl false) := fun b => by cases b <;> rfl
  subst hb
  cases c <;> cases t <;> simp [exS, evr, ev, evs, eva, evi, rdV, callF, mkArgs, mkArg, isS, noTwice, putBack, Out.bind, Out.so, Out.opt, SO.seq, SO.opt, SO.ifb, putT_n, putT_t, puts_nil, puts_cons, putN_pt, stR_v, stR_f, pt_un, pt_val, pt_f, tab_runE, RV.d, List.replicate, h5, he, hi, ht] <;> rfl
theorem value_loop' : ∀ (items : List D), (∀ x ∈ items, ∃ b c t, runD DF (k + 5) 5 [.val x] = .ok (.v (.bl b)) [.val x] ∧ pEq [x, rD (0, 1)] = some (.bl c) ∧ pIsi "tuple" [x] = some (.bl t) ∧ b = (c && t)) → ∀ s11, Fre s11 → ∃ t11, Fre t11 ∧
    evFor (Tg.put (.n 11)) (fun e => exS (tabD DF (k + 5)) lb_law_3 e) items [s0, s1, s2, s3, s4, s5, s6, s7, s8, s9, s10, s11, s12, s13, s14] = .nx [s0, s1, s2, s3, s4, s5, s6, s7, s8, s9, s10, t11, s12, s13, s14]
  | [], _, s11, h1 => ⟨s11, h1, rfl⟩
  | x :: xs, hx, s11, h1 => by
    have hput : Tg.put (.n 11) x [s0, s1, s2, s3, s4, s5, s6, s7, s8, s9, s10, s11, s12, s13, s14] = some [s0, s1, s2, s3, s4, s5, s6, s7, s8, s9, s10, .val x, s12, s13, s14] := by
      have h1 := h1.pt
      simp [putT_n, putN_pt, h1]
    obtain ⟨b, c, t, q1, q2, q3, q4⟩ := hx x (List.mem_cons_self ..)
    have hb := value_step k s0 s1 s2 s3 s4 s5 s6 s7 s8 s9 s10 s12 s13 s14 x b c t q1 q2 q3 q4
    obtain ⟨t11, f1, ih⟩ := value_loop' xs (fun y hy => hx y (List.mem_cons_of_mem _ hy)) (.val x) (fre_val _)
    refine ⟨t11, f1, ?_⟩
    unfold evFor
    rw [hput]
    simp only [SO.putThen, hb, SO.loop]
    exact ih
def vals : List D := [.non, .str "1", .tup [.int 1], .tup [.int 1, .int 2, .int 3], .lst [.int 1, .int 2], .tup [.bl true, .int 2], .tup [.int 2, .bl true], rD (1, 0), rD (2, 4), rD (1, -2), rD (0, 2), rD (0, 1)]
theorem vals_ok : ∀ x ∈ vals, ∃ b c t, runD DF (k + 5) 5 [.val x] = .ok (.v (.bl b)) [.val x] ∧ pEq [x, rD (0, 1)] = some (.bl c) ∧ pIsi "tuple" [x] = some (.bl t) ∧ b = (c && t) := by
  have sm : ∀ d : Int, d.natAbs ≤ 4 → Bd 8000 d := fun d h => by
    have h2 : (2 : Nat) ^ 3 ≤ 2 ^ 8000 := Nat.pow_le_pow_right (by omega) (by omega)
    unfold Bd
    omega
  intro x hx
  simp only [vals, List.mem_cons, List.not_mem_nil, or_false] at hx
  rcases hx with rfl | rfl | rfl | rfl | rfl | rfl | rfl | rfl | rfl | rfl | rfl | rfl
  · exact ⟨false, false, false, rfl, rfl, rfl, rfl⟩
  · exact ⟨false, false, false, rfl, by
      have h1 : (D.str "1").shp = true := by decide +kernel
      show (if ((D.str "1").shp && (rD (0, 1)).shp) = true then some (D.bl ((D.str "1").eqv (rD (0, 1)))) else none) = _
      rw [h1]
      rfl, rfl, rfl⟩
  · exact ⟨false, false, true, rfl, rfl, rfl, rfl⟩
  · exact ⟨false, false, true, rfl, rfl, rfl, rfl⟩
  · exact ⟨false, false, false, rfl, rfl, rfl, rfl⟩
  · exact ⟨false, false, true, rfl, rfl, rfl, rfl⟩
  · exact ⟨false, false, true, rfl, rfl, rfl, rfl⟩
  · exact ⟨_, false, true, isr_ok (k + 3) 1 0 (sm _ (by decide)), e_r _ _, rfl, by decide⟩
  · exact ⟨_, false, true, isr_ok (k + 3) 2 4 (sm _ (by decide)), e_r _ _, rfl, by decide⟩
  · exact ⟨_, false, true, isr_ok (k + 3) 1 (-2) (sm _ (by decide)), e_r _ _, rfl, by decide⟩
  · exact ⟨_, false, true, isr_ok (k + 3) 0 2 (sm _ (by decide)), e_r _ _, rfl, by decide⟩
  · exact ⟨_, true, true, isr_ok (k + 3) 0 1 (sm _ (by decide)), e_r _ _, rfl, by decide⟩
theorem value_loop (h11 : Fre s11) : ∃ t11, Fre t11 ∧ exS (tabD DF (k + 5)) fr_law_3 [s0, s1, s2, s3, s4, s5, s6, s7, s8, s9, s10, s11, s12, s13, s14] = .nx [s0, s1, s2, s3, s4, s5, s6, s7, s8, s9, s10, t11, s12, s13, s14] := by
  obtain ⟨t11, f, h⟩ := value_loop' k s0 s1 s2 s3 s4 s5 s6 s7 s8 s9 s10 s12 s13 s14 vals (vals_ok k) s11 h11
  exact ⟨t11, f, h⟩
end
theorem comp_ok2 (T : Tab) (i : Nat) (it : II) (elt : IE) (items : List D) (g : D → D) (e : Sls) (s : Slo) (hi : evi T it e = .ok items e) (hs : e[i]? = some s) (hf : ∀ p c, s ≠ .mt p c) (hl : items.length ≤ 16777216)
    (hb : ∀ x ∈ items, ev T elt (e.set i (.val x)) = .ok (g x) (e.set i (.val x))) : ev T (.comp [i] (.n i) it (.c (.bl true)) elt) e = .ok (.lst (items.map g)) e := by
  have hlt : i < e.length := (List.getElem?_eq_some_iff.mp hs).1
  have hself : e.set i s = e := by
    apply List.ext_getElem?
    intro j
    by_cases hj : i = j
    · subst hj; rw [List.getElem?_set_self hlt, hs]
    · rw [List.getElem?_set_ne hj]
  have loop : ∀ (xs : List D) (acc : List D) (e1 : Sls), (∀ x ∈ xs, x ∈ items) → e1.set i .un = e.set i .un → ∃ e2, evComp (cBody (Tg.put (.n i)) [i] (fun e => ev T (.c (.bl true)) e) (fun e => ev T elt e)) xs acc e1 = .ok (acc ++ xs.map g) e2 ∧ e2.set i .un = e.set i .un := by
    intro xs
    induction xs with
    | nil => intro acc e1 _ h; exact ⟨e1, by simp [evComp], h⟩
    | cons x xs ih =>
      intro acc e1 hm h
      have hp : Tg.put (.n i) x (wipeS e1 [i]) = some (e.set i (.val x)) := by
        show putN i x (e1.set i .un) = _
        rw [h]
        unfold putN
        rw [List.getElem?_set_self hlt]
        simp only [List.set_set]
      obtain ⟨e2, h1, h2⟩ := ih (acc ++ [g x]) (e.set i (.val x)) (fun y hy => hm y (List.mem_cons_of_mem _ hy)) (by rw [List.set_set])
      refine ⟨e2, ?_, h2⟩
      unfold evComp cBody
      rw [hp]
      simp only [ev, Out.bind, hb x (hm x (List.mem_cons_self ..))]
      have : acc ++ (x :: xs).map g = acc ++ [g x] ++ xs.map g := by simp
      rw [this]
      exact h1
  obtain ⟨e2, h1, h2⟩ := loop items [] e (fun _ h => h) rfl
  unfold ev
  rw [hi]
  have ho : ownOk e [i] = true := by
    show ((match e[i]? with
      | some (.mt _ _) => false
      | some _ => true
      | none => false) && true) = true
    rw [hs]
    cases s with
    | mt p c => exact absurd rfl (hf p c)
    | _ => rfl
  simp only [Out.bind, ho, Bool.true_and, decide_eq_true hl, Bool.not_true, Bool.false_eq_true, if_false, h1, Out.nox, List.nil_append]
  have hb2 : backS e e2 [i] = e := by
    show (match e[i]? with
      | some s => (backS e e2 []).set i s
      | none => backS e e2 []) = e
    rw [hs]
    show e2.set i s = e
    have := congrArg (fun l => List.set l i s) h2
    simp only [List.set_set] at this
    rw [this, hself]
  rw [hb2]
section
variable (k : Nat) (s0 s1 s2 s3 s4 s5 s6 s7 s8 s9 s10 s11 s12 s13 s14 : Slo)
def wItems : List D := [.int 0, .int (-7), .bl true, .bl false, .non, .str "0", .tup [.int 1]]
/-- the truths of is_whole in the law -/
theorem whole_list (hf : ∀ p c, s11 ≠ .mt p c) : ev (tabD DF (k + 5)) (.comp [11] (.n 11) (.mk pItems (.cons (.prim pLst (.cons (.c (.int 0)) (.cons (.prim pNeg (.cons (.c (.int 7)) .nil)) (.cons (.c (.bl true)) (.cons (.c (.bl false)) (.cons (.c .non) (.cons (.c (.str "0")) (.cons (.prim pTup (.cons (.c (.int 1)) (.nil))) (.nil))))))))) .nil)) (.c (.bl true)) (.call 0 (.e (.v 11) (.nil)))) [s0, s1, s2, s3, s4, s5, s6, s7, s8, s9, s10, s11, s12, s13, s14] =
    .ok (.lst [.bl true, .bl true, .bl false, .bl false, .bl false, .bl false, .bl false]) [s0, s1, s2, s3, s4, s5, s6, s7, s8, s9, s10, s11, s12, s13, s14] :=
  comp_ok2 (tabD DF (k + 5)) 11 _ _ wItems (fun x => .bl (D.isW x)) _ s11 (by simp [exS, evr, ev, evs, eva, evi, rdV, callF, mkArgs, mkArg, isS, noTwice, putBack, Out.bind, Out.so, Out.opt, SO.seq, SO.opt, SO.ifb, putT_n, putT_t, puts_nil, puts_cons, putN_pt, stR_v, stR_f, pt_un, pt_val, pt_f, tab_runE, RV.d, List.replicate, pLst, pNeg, pTup, pItems, wItems]) rfl hf (by decide) (fun x hx => by
    have hw := whole (k + 4) x (by
      simp only [wItems, List.mem_cons, List.not_mem_nil, or_false] at hx
      rcases hx with rfl | rfl | rfl | rfl | rfl | rfl | rfl <;> rfl)
    simp [exS, evr, ev, evs, eva, evi, rdV, callF, mkArgs, mkArg, isS, noTwice, putBack, Out.bind, Out.so, Out.opt, SO.seq, SO.opt, SO.ifb, putT_n, putT_t, puts_nil, puts_cons, putN_pt, stR_v, stR_f, pt_un, pt_val, pt_f, tab_runE, RV.d, List.replicate, hw])
end
end Lw

set_option Elab.async false
set_option linter.all false
set_option maxRecDepth 100000
namespace Lw
open PySem L2 Eng TL
structure St where
  cs : List Int
  at_ : Int
  rest : Int
  seed : Int
def St.d (S : St) : List D := [.lst (S.cs.map .int), .int S.at_, .int S.rest, .int S.seed]
structure St.Ok (S : St) : Prop where
  cs : ∀ c ∈ S.cs, 0 ≤ c
  at_ : -1 ≤ S.at_
  rest : 0 ≤ S.rest
  s0 : 0 ≤ S.seed
  s1 : S.seed < 2147483647
theorem atd0 (a b c d : D) : atI [a, b, c, d] 0 = some a := rfl
theorem atd1 (a b c d : D) : atI [a, b, c, d] 1 = some b := rfl
theorem atd2 (a b c d : D) : atI [a, b, c, d] 2 = some c := rfl
theorem atd3 (a b c d : D) : atI [a, b, c, d] 3 = some d := rfl
theorem ix4_1 : ixN 4 1 = some 1 := rfl
theorem ix4_2 : ixN 4 2 = some 2 := rfl
theorem ix4_3 : ixN 4 3 = some 3 := rfl
theorem fx (ds : List D) (i : Int) : fIx (.lst ds) [.int i] = atI ds i := rfl
theorem fs (ds : List D) (d : D) (i : Int) : fSet (.lst ds) [d, .int i] = (match ixN ds.length i with | some j => some (.lst (ds.set j d), .non) | none => none) := rfl
theorem pInt_i (i : Int) : pInt [.int i] = some (.int i) := rfl
theorem add_i (i j : Int) : pAdd [.int i, .int j] = some (.int (i + j)) := rfl
/-- seed * 48271 + 11 % 2147483647 -/
theorem seed_bd {x : Int} (h0 : 0 ≤ x) (h1 : x < 2147483647) : okMul x 48271 = true := by
  refine Bd.okM (k := 31) (l := 16) ?_ ?_ (by omega)
  · unfold Bd; omega
  · unfold Bd; decide
theorem fmodP {x m : Int} (hm : 0 < m) : 0 ≤ x.fmod m ∧ x.fmod m < m := by
  rw [Int.fmod_eq_emod_of_nonneg _ (by omega)]
  exact ⟨Int.emod_nonneg _ (by omega), Int.emod_lt_of_pos _ hm⟩
theorem fdivP {x m : Int} (hx : 0 ≤ x) (hm : 0 < m) : 0 ≤ x.fdiv m := by
  rw [Int.fdiv_eq_ediv_of_nonneg _ (by omega)]
  exact Int.ediv_nonneg hx (by omega)
theorem cell (cs : List Int) (i : Int) (h0 : 0 ≤ i) (h1 : i < cs.length) (hc : ∀ c ∈ cs, 0 ≤ c) : ∃ c, pIx [.lst (cs.map .int), .int i] = some (.int c) ∧ 0 ≤ c := by
  have hn : i.toNat < cs.length := by omega
  refine ⟨cs[i.toNat], ?_, hc _ (List.getElem_mem hn)⟩
  show atI (cs.map D.int) i = _
  unfold atI ixN
  rw [List.length_map, if_pos h0, if_pos h1]
  simp [hn]
def tailT : IS := .seq (.put (.n 2) (.prim pMod (.cons (.prim pInt (.cons (.slot 0 fIx (.cons (.c (.int 2)) .nil)) (.nil))) (.cons (.v 1) .nil)))) (.seq (.ex (.smut true 0 fSet (.cons (.prim pDiv (.cons (.slot 0 fIx (.cons (.c (.int 2)) .nil)) (.cons (.v 1) .nil))) (.cons (.c (.int 2)) .nil)))) (.ret (.val (.v 2))))
theorem tail_ok (T : Tab) (S : St) (m : Int) (hm : 0 < m) (hb : Bd 8000 m) : exS T tailT [.mt true (.lst S.d), .val (.int m), .un] = .ret (.v (.int (S.rest.fmod m))) [.mt true (.lst ({ S with rest := S.rest.fdiv m } : St).d), .val (.int m), .val (.int (S.rest.fmod m))] := by
  have hd := div_ok (i := S.rest) (hb.okD (by omega) (by omega))
  have hmo := mod_ok (i := S.rest) (show m ≠ 0 by omega)
  simp [exS, evr, ev, evs, eva, evi, rdV, callF, mkArgs, mkArg, isS, noTwice, putBack, Out.bind, Out.so, Out.opt, SO.seq, SO.opt, SO.ifb, putT_n, putT_t, puts_nil, puts_cons, putN_pt, stR_v, stR_f, pt_un, pt_val, pt_f, tab_runE, RV.d, List.replicate, tailT, bnd, bndM, rdM, wrM, MC.isL, St.d, fx, fs, atd2, ix4_2, pInt_i, hd, hmo]
def headT : IS := .ife (.prim pEq (.cons (.slot 0 fIx (.cons (.c (.int 2)) .nil)) (.cons (.c (.int 0)) .nil))) (.seq (.ex (.smut true 0 fSet (.cons (.prim pAdd (.cons (.slot 0 fIx (.cons (.c (.int 1)) .nil)) (.cons (.c (.int 1)) .nil))) (.cons (.c (.int 1)) .nil)))) (.seq (.ife (.prim pLt (.cons (.slot 0 fIx (.cons (.c (.int 1)) .nil)) (.cons (.prim pLen (.cons (.slot 0 fIx (.cons (.c (.int 0)) .nil)) (.nil))) .nil))) (.ex (.smut true 0 fSet (.cons (.prim pIx (.cons (.slot 0 fIx (.cons (.c (.int 0)) .nil)) (.cons (.slot 0 fIx (.cons (.c (.int 1)) .nil)) .nil))) (.cons (.c (.int 2)) .nil)))) (.nop)) (.ife (.prim pEq (.cons (.slot 0 fIx (.cons (.c (.int 2)) .nil)) (.cons (.c (.int 0)) .nil))) (.seq (.ex (.smut true 0 fSet (.cons (.prim pMod (.cons (.prim pInt (.cons (.prim pAdd (.cons (.prim pMul (.cons (.slot 0 fIx (.cons (.c (.int 3)) .nil)) (.cons (.c (.int 48271)) .nil))) (.cons (.c (.int 11)) .nil))) (.nil))) (.cons (.c (.int 2147483647)) .nil))) (.cons (.c (.int 3)) .nil)))) (.ex (.smut true 0 fSet (.cons (.slot 0 fIx (.cons (.c (.int 3)) .nil)) (.cons (.c (.int 2)) .nil))))) (.nop)))) (.nop)
theorem take_ir : ir__law_take = .seq headT tailT := rfl
theorem head_ok (T : Tab) (S : St) (h : S.Ok) (m : D) : ∃ S' : St, S'.Ok ∧ exS T headT [.mt true (.lst S.d), .val m, .un] = .nx [.mt true (.lst S'.d), .val m, .un] := by
  have hmo : ∀ x : Int, pMod [.int x, .int 2147483647] = some (.int (x.fmod 2147483647)) := fun x => mod_ok (by decide)
  have hmu := mul_ok (seed_bd h.s0 h.s1)
  by_cases h0 : S.rest = 0
  · by_cases h1 : S.at_ + 1 < (S.cs.length : Int)
    · have ha := h.at_
      obtain ⟨c, hc, hc0⟩ := cell S.cs (S.at_ + 1) (by omega) h1 h.cs
      have hl : pLen [.lst (S.cs.map .int)] = some (.int S.cs.length) := by
        show some (D.int (S.cs.map D.int).length) = _
        rw [List.length_map]
      by_cases h2 : c = 0
      · obtain ⟨p1, p2⟩ := fmodP (x := S.seed * 48271 + 11) (m := 2147483647) (by decide)
        refine ⟨⟨S.cs, S.at_ + 1, (S.seed * 48271 + 11).fmod 2147483647, (S.seed * 48271 + 11).fmod 2147483647⟩, ⟨h.cs, by show -1 ≤ S.at_ + 1; omega, p1, p1, p2⟩, ?_⟩
        simp [exS, evr, ev, evs, eva, evi, rdV, callF, mkArgs, mkArg, isS, noTwice, putBack, Out.bind, Out.so, Out.opt, SO.seq, SO.opt, SO.ifb, putT_n, putT_t, puts_nil, puts_cons, putN_pt, stR_v, stR_f, pt_un, pt_val, pt_f, tab_runE, RV.d, List.replicate, headT, bnd, bndM, rdM, wrM, MC.isL, St.d, fx, fs, atd0, atd1, atd2, atd3, ix4_1, ix4_2, ix4_3, pInt_i, add_i, e_int, h0, pLt, hl, h1, hc, h2, hmu, hmo]
      · refine ⟨⟨S.cs, S.at_ + 1, c, S.seed⟩, ⟨h.cs, by show -1 ≤ S.at_ + 1; omega, hc0, h.s0, h.s1⟩, ?_⟩
        simp [exS, evr, ev, evs, eva, evi, rdV, callF, mkArgs, mkArg, isS, noTwice, putBack, Out.bind, Out.so, Out.opt, SO.seq, SO.opt, SO.ifb, putT_n, putT_t, puts_nil, puts_cons, putN_pt, stR_v, stR_f, pt_un, pt_val, pt_f, tab_runE, RV.d, List.replicate, headT, bnd, bndM, rdM, wrM, MC.isL, St.d, fx, fs, atd0, atd1, atd2, atd3, ix4_1, ix4_2, ix4_3, pInt_i, add_i, e_int, h0, pLt, hl, h1, hc, h2, hmu, hmo]
    · have ha := h.at_
      have hl : pLen [.lst (S.cs.map .int)] = some (.int S.cs.length) := by
        show some (D.int (S.cs.map D.int).length) = _
        rw [List.length_map]
      obtain ⟨p1, p2⟩ := fmodP (x := S.seed * 48271 + 11) (m := 2147483647) (by decide)
      refine ⟨⟨S.cs, S.at_ + 1, (S.seed * 48271 + 11).fmod 2147483647, (S.seed * 48271 + 11).fmod 2147483647⟩, ⟨h.cs, by show -1 ≤ S.at_ + 1; omega, p1, p1, p2⟩, ?_⟩
      simp [exS, evr, ev, evs, eva, evi, rdV, callF, mkArgs, mkArg, isS, noTwice, putBack, Out.bind, Out.so, Out.opt, SO.seq, SO.opt, SO.ifb, putT_n, putT_t, puts_nil, puts_cons, putN_pt, stR_v, stR_f, pt_un, pt_val, pt_f, tab_runE, RV.d, List.replicate, headT, bnd, bndM, rdM, wrM, MC.isL, St.d, fx, fs, atd0, atd1, atd2, atd3, ix4_1, ix4_2, ix4_3, pInt_i, add_i, e_int, h0, pLt, hl, h1, hmu, hmo]
  · refine ⟨S, h, ?_⟩
    simp [exS, evr, ev, evs, eva, evi, rdV, callF, mkArgs, mkArg, isS, noTwice, putBack, Out.bind, Out.so, Out.opt, SO.seq, SO.opt, SO.ifb, putT_n, putT_t, puts_nil, puts_cons, putN_pt, stR_v, stR_f, pt_un, pt_val, pt_f, tab_runE, RV.d, List.replicate, headT, bnd, bndM, rdM, wrM, MC.isL, St.d, fx, fs, atd2, e_int, h0]
theorem take_ok (k : Nat) (S : St) (h : S.Ok) (m : Int) (hm : 0 < m) (hb : Bd 8000 m) : ∃ (S' : St) (r : Int), S'.Ok ∧ 0 ≤ r ∧ r < m ∧
    runD DF (k + 1) 17 [.mt true (.lst S.d), .val (.int m)] = .ok (.v (.int r)) [.mt true (.lst S'.d), .val (.int m)] := by
  obtain ⟨S1, h1, e1⟩ := head_ok (tabD DF k) S h (.int m)
  obtain ⟨p1, p2⟩ := fmodP (x := S1.rest) hm
  refine ⟨{ S1 with rest := S1.rest.fdiv m }, S1.rest.fmod m, ⟨h1.cs, h1.at_, fdivP h1.rest hm, h1.s0, h1.s1⟩, p1, p2, ?_⟩
  refine ret_of (e := [.mt true (.lst ({ S1 with rest := S1.rest.fdiv m } : St).d), .val (.int m), .val (.int (S1.rest.fmod m))]) 2 3 ir__law_take rfl rfl rfl rfl ?_ rfl
  rw [take_ir]
  exact Eq.trans (seq_nx e1) (tail_ok _ S1 m hm hb)
end Lw

set_option Elab.async false
set_option linter.all false
set_option maxRecDepth 100000
namespace Lw
open PySem L2 Eng TL
def sizes : List D := [.int 3, .int 20, .int 1000, .int 1000000000000000000, .int 10000000000000000000000000000000000000000]
theorem size_at {r : Int} (h0 : 0 ≤ r) (h1 : r < 5) : ∃ z : Int, pIx [.lst sizes, .int r] = some (.int z) ∧ 0 < z ∧ z ≤ 10000000000000000000000000000000000000000 := by
  have : r = 0 ∨ r = 1 ∨ r = 2 ∨ r = 3 ∨ r = 4 := by omega
  rcases this with rfl | rfl | rfl | rfl | rfl
  · exact ⟨3, rfl, by decide, by decide⟩
  · exact ⟨20, rfl, by decide, by decide⟩
  · exact ⟨1000, rfl, by decide, by decide⟩
  · exact ⟨1000000000000000000, rfl, by decide, by decide⟩
  · exact ⟨10000000000000000000000000000000000000000, rfl, by decide, by decide⟩
theorem bd_small {m : Int} (h0 : 0 < m) (h1 : m ≤ 10000000000000000000000000000000000000000) : Bd 134 m := by
  unfold Bd
  have : (2 : Nat) ^ 134 = 21778071482940061661655974875633165533184 := by decide
  omega
theorem number_ok (k : Nat) (S : St) (h : S.Ok) : ∃ (S' : St) (x : Int), S'.Ok ∧ Bd 134 x ∧ runD DF (k + 2) 19 [.mt true (.lst S.d)] = .ok (.v (.int x)) [.mt true (.lst S'.d)] := by
  obtain ⟨S1, r1, o1, a1, b1, t1⟩ := take_ok k S h 5 (by decide) ((bd_small (by decide) (by decide)).mono (by omega))
  obtain ⟨z, hz, z0, z1⟩ := size_at a1 b1
  obtain ⟨S2, r2, o2, a2, b2, t2⟩ := take_ok k S1 o1 6 (by decide) ((bd_small (by decide) (by decide)).mono (by omega))
  have p1 : pPow [.int 10, .int 18] = some (.int 1000000000000000000) := rfl
  have p2 : pPow [.int 10, .int 40] = some (.int 10000000000000000000000000000000000000000) := rfl
  have hl : pLst sizes = some (.lst sizes) := rfl
  unfold sizes at hl hz
  by_cases h2 : 0 < r2
  · obtain ⟨S3, r3, o3, a3, b3, t3⟩ := take_ok k S2 o2 z z0 ((bd_small z0 z1).mono (by omega))
    obtain ⟨S4, r4, o4, a4, b4, t4⟩ := take_ok k S3 o3 2 (by decide) ((bd_small (by decide) (by decide)).mono (by omega))
    have hr3 : Bd 134 (r3 + 1) := bd_small (by omega) (by omega)
    by_cases h4 : r4 = 0
    · have hm := mul_ok (hr3.okM (j := 1) (l := 1) (by unfold Bd; decide) (by omega))
      refine ⟨S4, (r3 + 1) * 1, o4, by rw [Int.mul_one]; exact hr3, ?_⟩
      refine ret_of (e := [.mt true (.lst S4.d), .val (.int z)]) 1 2 ir__law_number rfl rfl rfl rfl ?_ rfl
      simp [exS, evr, ev, evs, eva, evi, rdV, callF, mkArgs, mkArg, isS, noTwice, putBack, Out.bind, Out.so, Out.opt, SO.seq, SO.opt, SO.ifb, putT_n, putT_t, puts_nil, puts_cons, putN_pt, stR_v, stR_f, pt_un, pt_val, pt_f, tab_runE, RV.d, List.replicate, ir__law_number, p1, p2, hl, t1, hz, t2, pGt, h2, t3, add_i, t4, e_int, h4, pNeg, hm, bnd]
    · have hm := mul_ok (hr3.okM (j := -1) (l := 1) (by unfold Bd; decide) (by omega))
      refine ⟨S4, (r3 + 1) * (-1), o4, by unfold Bd at *; omega, ?_⟩
      refine ret_of (e := [.mt true (.lst S4.d), .val (.int z)]) 1 2 ir__law_number rfl rfl rfl rfl ?_ rfl
      simp [exS, evr, ev, evs, eva, evi, rdV, callF, mkArgs, mkArg, isS, noTwice, putBack, Out.bind, Out.so, Out.opt, SO.seq, SO.opt, SO.ifb, putT_n, putT_t, puts_nil, puts_cons, putN_pt, stR_v, stR_f, pt_un, pt_val, pt_f, tab_runE, RV.d, List.replicate, ir__law_number, p1, p2, hl, t1, hz, t2, pGt, h2, t3, add_i, t4, e_int, h4, pNeg, hm, bnd]
  · refine ⟨S2, 0, o2, by unfold Bd; exact Nat.two_pow_pos _, ?_⟩
    refine ret_of (e := [.mt true (.lst S2.d), .val (.int z)]) 1 2 ir__law_number rfl rfl rfl rfl ?_ rfl
    simp [exS, evr, ev, evs, eva, evi, rdV, callF, mkArgs, mkArg, isS, noTwice, putBack, Out.bind, Out.so, Out.opt, SO.seq, SO.opt, SO.ifb, putT_n, putT_t, puts_nil, puts_cons, putN_pt, stR_v, stR_f, pt_un, pt_val, pt_f, tab_runE, RV.d, List.replicate, ir__law_number, p1, p2, hl, t1, hz, t2, pGt, h2, bnd]
end Lw

set_option Elab.async false
set_option linter.all false
set_option maxRecDepth 100000
namespace Lw
open PySem L2 Eng TL
/-! ### the draw -/
theorem draw_step (T : Tab) (s c : Int) (h0 : 0 ≤ s) (h1 : s < 2147483647) (x : D) : ∃ s' : Int, 0 ≤ s' ∧ s' < 2147483647 ∧ exS T lb__law_draw_0 [.val x, .val (.int s), .val (.int c)] = .nx [.val x, .val (.int s'), .val (.int c)] := by
  have hm := mul_ok (seed_bd h0 h1)
  have m1 : ∀ x : Int, pMod [.int x, .int 65521] = some (.int (x.fmod 65521)) := fun x => mod_ok (by decide)
  have m2 : ∀ x : Int, pMod [.int x, .int 2147483647] = some (.int (x.fmod 2147483647)) := fun x => mod_ok (by decide)
  have ha : pAbs [.int c] = some (.int c.natAbs) := rfl
  obtain ⟨p1, p2⟩ := fmodP (x := s * 48271 + ((c.natAbs : Int)).fmod 65521 + 1) (m := 2147483647) (by decide)
  refine ⟨_, p1, p2, ?_⟩
  simp [exS, evr, ev, evs, eva, evi, rdV, callF, mkArgs, mkArg, isS, noTwice, putBack, Out.bind, Out.so, Out.opt, SO.seq, SO.opt, SO.ifb, putT_n, putT_t, puts_nil, puts_cons, putN_pt, stR_v, stR_f, pt_un, pt_val, pt_f, tab_runE, RV.d, List.replicate, lb__law_draw_0, hm, m1, m2, ha, pInt_i, add_i]
theorem draw_loop (T : Tab) (x : D) : ∀ (ns : List Int) (s : Int) (t : Slo), 0 ≤ s → s < 2147483647 → Fre t → ∃ (s' : Int) (t' : Slo), 0 ≤ s' ∧ s' < 2147483647 ∧ Fre t' ∧
    evFor (Tg.put (.n 2)) (fun e => exS T lb__law_draw_0 e) (ns.map D.int) [.val x, .val (.int s), t] = .nx [.val x, .val (.int s'), t']
  | [], s, t, h0, h1, h2 => ⟨s, t, h0, h1, h2, rfl⟩
  | n :: ns, s, t, h0, h1, h2 => by
    have hput : Tg.put (.n 2) (.int n) [.val x, .val (.int s), t] = some [.val x, .val (.int s), .val (.int n)] := by
      have h := h2.pt
      simp [putT_n, putN_pt, h]
    obtain ⟨s1, a0, a1, hb⟩ := draw_step T s n h0 h1 x
    obtain ⟨s', t', b0, b1, b2, ih⟩ := draw_loop T x ns s1 (.val (.int n)) a0 a1 (fre_val _)
    refine ⟨s', t', b0, b1, b2, ?_⟩
    show evFor _ _ (D.int n :: ns.map D.int) _ = _
    unfold evFor
    rw [hput]
    simp only [SO.putThen, hb, SO.loop]
    exact ih
theorem draw_ok (k : Nat) (ns : List Int) (hl : ns.length ≤ 16777216) : ∃ S : St, S.Ok ∧ runD DF (k + 1) 16 [.val (.lst (ns.map D.int))] = .ok (.fr (.lst S.d)) [.val (.lst (ns.map D.int))] := by
  obtain ⟨s', t', b0, b1, b2, hlp⟩ := draw_loop (tabD DF k) (.lst (ns.map D.int)) ns 7 .un (by decide) (by decide) fre_un
  refine ⟨⟨ns.map (fun n => (n.natAbs : Int)), -1, 0, s'⟩, ⟨fun c hc => ?_, Int.le_refl _, Int.le_refl _, b0, b1⟩, ?_⟩
  · obtain ⟨n, _, rfl⟩ := List.mem_map.mp hc
    omega
  · have hc := comp_ok2 (tabD DF k) 2 (.mk pItems (.cons (.v 0) .nil)) (.prim pAbs (.cons (.prim pInt (.cons (.v 2) (.nil))) (.nil))) (ns.map D.int) (fun d => match d with | .int n => .int n.natAbs | d => d)
      [.val (.lst (ns.map D.int)), .val (.int s'), t'] t' (by simp [exS, evr, ev, evs, eva, evi, rdV, callF, mkArgs, mkArg, isS, noTwice, putBack, Out.bind, Out.so, Out.opt, SO.seq, SO.opt, SO.ifb, putT_n, putT_t, puts_nil, puts_cons, putN_pt, stR_v, stR_f, pt_un, pt_val, pt_f, tab_runE, RV.d, List.replicate, pItems]) rfl b2.nm (by simpa using hl) (fun x hx => by
        obtain ⟨n, _, rfl⟩ := List.mem_map.mp hx
        have ha : pAbs [.int n] = some (.int n.natAbs) := rfl
        simp [exS, evr, ev, evs, eva, evi, rdV, callF, mkArgs, mkArg, isS, noTwice, putBack, Out.bind, Out.so, Out.opt, SO.seq, SO.opt, SO.ifb, putT_n, putT_t, puts_nil, puts_cons, putN_pt, stR_v, stR_f, pt_un, pt_val, pt_f, tab_runE, RV.d, List.replicate, pInt_i, ha])
    refine ret_of (e := [.val (.lst (ns.map D.int)), .val (.int s'), t']) 1 3 ir__law_draw rfl rfl rfl rfl ?_ rfl
    have h1 : exS (tabD DF k) (.put (.n 1) (.c (.int 7))) [.val (.lst (ns.map D.int)), .un, .un] = .nx [.val (.lst (ns.map D.int)), .val (.int 7), .un] := rfl
    have h2 : exS (tabD DF k) fr__law_draw_0 [.val (.lst (ns.map D.int)), .val (.int 7), .un] = .nx [.val (.lst (ns.map D.int)), .val (.int s'), t'] := hlp
    refine Eq.trans (seq_nx h1) (Eq.trans (seq_nx h2) ?_)
    have hm : mLst [.lst ((ns.map D.int).map fun d => match d with | .int n => .int n.natAbs | d => d), .int (-1), .int 0, .int s'] = some (.lst [.lst ((ns.map D.int).map fun d => match d with | .int n => .int n.natAbs | d => d), .int (-1), .int 0, .int s']) := rfl
    have hn : pNeg [.int 1] = some (.int (-1)) := rfl
    have hs : ((ns.map D.int).map fun d => match d with | .int n => D.int n.natAbs | d => d) = (ns.map (fun n => (n.natAbs : Int))).map D.int := by simp
    have key : ∀ c : IE, ev (tabD DF k) c [.val (.lst (ns.map D.int)), .val (.int s'), t'] = .ok (.lst ((ns.map D.int).map fun d => match d with | .int n => .int n.natAbs | d => d)) [.val (.lst (ns.map D.int)), .val (.int s'), t'] →
        exS (tabD DF k) (.ret (.fr mLst (.cons c (.cons (.prim pNeg (.cons (.c (.int 1)) .nil)) (.cons (.c (.int 0)) (.cons (.v 1) (.nil))))))) [.val (.lst (ns.map D.int)), .val (.int s'), t'] = .ret (.fr (.lst (⟨ns.map (fun n => (n.natAbs : Int)), -1, 0, s'⟩ : St).d)) [.val (.lst (ns.map D.int)), .val (.int s'), t'] := fun c h => by
      simp only [exS, evr, ev, evs, eva, evi, rdV, callF, mkArgs, mkArg, isS, noTwice, putBack, Out.bind, Out.so, Out.opt, SO.seq, SO.opt, SO.ifb, putT_n, putT_t, puts_nil, puts_cons, putN_pt, stR_v, stR_f, pt_un, pt_val, pt_f, tab_runE, RV.d, List.replicate, h, hn, hm, List.getElem?_cons_succ, List.getElem?_cons_zero, Option.map_some]
      rw [hs]
      rfl
    exact key _ hc
/-! ### the asking -/
theorem ask_ok (k : Nat) (j : Int) (f : Nat) (x y r : D) (hf : pIx [.lst [.fn 4, .fn 9], .int j] = some (.fn f)) (hlt : f < 27) (h : runD DF (k + 1) f [.val x, .val y] = .ok (.v r) [.val x, .val y]) :
    runD DF (k + 2) 22 [.val (.int j), .val x, .val y] = .ok (.v r) [.val (.int j), .val x, .val y] := by
  have hl : pLst [.fn 4, .fn 9] = some (.lst [.fn 4, .fn 9]) := rfl
  have hn : (tabD DF (k + 1)).nf = 27 := rfl
  refine ret_of (e := [.val (.int j), .val x, .val y]) 3 3 ir__law_ask rfl rfl rfl rfl ?_ rfl
  have hge : ¬ 27 ≤ f := by omega
  simp [exS, evr, ev, evs, eva, evi, rdV, callF, mkArgs, mkArg, isS, noTwice, putBack, Out.bind, Out.so, Out.opt, SO.seq, SO.opt, SO.ifb, putT_n, putT_t, puts_nil, puts_cons, putN_pt, stR_v, stR_f, pt_un, pt_val, pt_f, tab_runE, RV.d, List.replicate, ir__law_ask, hl, hf, hn, hge, h, SO.tr]
theorem ask_no (k : Nat) (j : Int) (f : Nat) (x y : D) (hf : pIx [.lst [.fn 4, .fn 9], .int j] = some (.fn f)) (hlt : f < 27) (h : runD DF (k + 1) f [.val x, .val y] = .exc ⟨0, none⟩ [.val x, .val y]) :
    runD DF (k + 2) 22 [.val (.int j), .val x, .val y] = .ok (.v (.str "<malformed>")) [.val (.int j), .val x, .val y] := by
  have hl : pLst [.fn 4, .fn 9] = some (.lst [.fn 4, .fn 9]) := rfl
  have hn : (tabD DF (k + 1)).nf = 27 := rfl
  have hs : (tabD DF (k + 1)).sub 0 0 = true := rfl
  refine ret_of (e := [.val (.int j), .val x, .val y]) 3 3 ir__law_ask rfl rfl rfl rfl ?_ rfl
  have hge : ¬ 27 ≤ f := by omega
  simp [exS, evr, ev, evs, eva, evi, rdV, callF, mkArgs, mkArg, isS, noTwice, putBack, Out.bind, Out.so, Out.opt, SO.seq, SO.opt, SO.ifb, putT_n, putT_t, puts_nil, puts_cons, putN_pt, stR_v, stR_f, pt_un, pt_val, pt_f, tab_runE, RV.d, List.replicate, ir__law_ask, hl, hf, hn, hge, h, SO.tr, hs, wipeS, SO.nox, SO.wp]
end Lw

set_option Elab.async false
set_option linter.all false
set_option maxRecDepth 100000
namespace Lw
open PySem L2 Eng TL
/-- the signs of an int -/
def sg (i : Int) : List Nat := tl (Str.ofString (toString i))
theorem sg_nat (n : Nat) : sg (n : Int) = numL n := tl_num n
theorem sg_neg (n : Nat) (h : 0 < n) : sg (-(n : Int)) = 45 :: numL n := by
  unfold sg
  have e : toString (-(n : Int)) = "-" ++ toString n := by
    cases n with
    | zero => omega
    | succ m => rfl
  rw [e]
  have e2 : Str.ofString ("-" ++ toString n) = Str.ofString "-" ++ Str.ofString (toString n) := by
    apply ext_tl
    rw [tl_append, tl_ofString, tl_ofString, tl_ofString, String.toList_append, List.map_append]
  rw [e2, tl_append]
  show tl "-" ++ tl (Str.ofString (toString ((n : Nat) : Int))) = _
  rw [tl_num]
  rfl
theorem num_head : ∀ (n : Nat), 0 < n → (numL n).head? ≠ some 48 := by
  intro n
  induction n using Nat.strongRecOn with
  | ind n ih =>
    intro h
    by_cases h10 : n < 10
    · rw [numL_lt h10]
      simp
      omega
    · rw [numL_step (by omega)]
      have := ih (n / 10) (by omega) (by omega)
      have hne := numL_ne (n / 10)
      cases hh : numL (n / 10) with
      | nil => exact absurd hh hne
      | cons a b => rw [hh] at this; simpa using this
theorem num_digs (n : Nat) : digs (numL n) = true := by
  rw [digs_iff]
  refine ⟨numL_ne n, ?_, ?_⟩
  · rw [List.all_eq_true]
    intro c hc
    have := numL_digits n c hc
    unfold isDig
    simp
    omega
  · by_cases h : n = 0
    · subst h; left; rw [numL_lt (by omega)]
    · right; exact num_head n (by omega)
theorem sg_ok (i : Int) : gw (sg i) = true ∧ valI (sg i) = i ∧ 47 ∉ sg i := by
  by_cases h : 0 ≤ i
  · obtain ⟨n, rfl⟩ := Int.eq_ofNat_of_zero_le h
    rw [sg_nat]
    obtain ⟨h1, h2⟩ := digs_gw (num_digs n)
    exact ⟨h1, by rw [h2, numL_val], numL_free (by omega)⟩
  · obtain ⟨n, hn⟩ : ∃ n : Nat, i = -(n : Int) := ⟨i.natAbs, by omega⟩
    have hp : 0 < n := by omega
    subst hn
    rw [sg_neg n hp]
    have hd := num_digs n
    refine ⟨?_, ?_, ?_⟩
    · unfold gw bodyL
      rw [if_pos (show (45 :: numL n).take 1 = [45] from rfl)]
      show (!decide (45 :: numL n = [45, 48]) && digs (numL n)) = true
      have : ¬ (45 :: numL n = [45, 48]) := fun z => by
        have z2 : numL n = [48] := by simpa using z
        exact num_head n hp (by rw [z2]; rfl)
      rw [hd]
      simp [this]
    · unfold valI
      rw [if_pos (show (45 :: numL n).take 1 = [45] from rfl)]
      show -((NumText.digitsVal (numL n) : Nat) : Int) = _
      rw [numL_val]
    · intro hm
      rcases List.mem_cons.mp hm with z | z
      · omega
      · exact numL_free (by omega) z
theorem sg_len (i : Int) (h : Bd 134 i) : (sg i).length ≤ 42 := by
  have h41 : (2 : Nat) ^ 134 ≤ 10 ^ 41 := by decide
  have key : ∀ n : Nat, n < 2 ^ 134 → (numL n).length ≤ 41 := fun n hn => numL_len (by omega) (Nat.lt_of_lt_of_le hn h41)
  unfold Bd at h
  by_cases h0 : 0 ≤ i
  · obtain ⟨n, rfl⟩ := Int.eq_ofNat_of_zero_le h0
    rw [sg_nat]
    have := key n (by omega)
    omega
  · obtain ⟨n, hn⟩ : ∃ n : Nat, i = -(n : Int) := ⟨i.natAbs, by omega⟩
    subst hn
    rw [sg_neg n (by omega)]
    have := key n (by omega)
    simp
    omega
theorem sg_str (i : Int) (h : Bd 134 i) : pStr [.int i] = some (.str (mkS (sg i))) := by
  have hz := h.okS (by omega)
  show (if okStr i then some (D.str (toString i)) else none) = _
  rw [if_pos hz]
  show some (D.str (Str.ofString (toString i))) = _
  rw [← mkS_tl (Str.ofString (toString i))]
  rfl
/-- the text of a ratio -/
def txt (p : Int × Int) : List Nat := if p.2 = 1 then sg p.1 else sg p.1 ++ 47 :: sg p.2
theorem txt_len {p : Int × Int} (h : R 134 p) : (txt p).length ≤ 85 := by
  have h1 := sg_len _ h.n
  have h2 := sg_len _ h.d
  unfold txt
  split
  · omega
  · rw [List.length_append, List.length_cons]; omega
theorem addS (a b : List Nat) (h : a.length + b.length ≤ 16777216) : pAdd [.str (mkS a), .str (mkS b)] = some (.str (mkS (a ++ b))) := by
  show (if (mkS a).length + (mkS b).length ≤ 16777216 then some (D.str (mkS a ++ mkS b)) else none) = _
  rw [mkS_len, mkS_len, if_pos h, mkS_app]
theorem texts_ok (k : Nat) {p : Int × Int} (h : R 134 p) : runD DF (k + 1) 14 [.val (rD p)] = .ok (.v (.str (mkS (txt p)))) [.val (rD p)] ∧ runD DF (k + 1) 20 [.val (rD p)] = .ok (.v (.str (mkS (txt p)))) [.val (rD p)] := by
  have h1 := sg_len _ h.n
  have h2 := sg_len _ h.d
  have s1 := sg_str _ h.n
  have s2 := sg_str _ h.d
  have a1 := addS (sg p.1) [47] (by simp; omega)
  have a2 := addS (sg p.1 ++ [47]) (sg p.2) (by simp; omega)
  have e : sg p.1 ++ [47] ++ sg p.2 = sg p.1 ++ 47 :: sg p.2 := by simp
  rw [e] at a2
  constructor
  · refine ret_of (e := [.val (rD p)]) 1 1 ir_ratio_text rfl rfl rfl rfl ?_ rfl
    by_cases hp : p.2 = 1 <;> simp [exS, evr, ev, evs, eva, evi, rdV, callF, mkArgs, mkArg, isS, noTwice, putBack, Out.bind, Out.so, Out.opt, SO.seq, SO.opt, SO.ifb, putT_n, putT_t, puts_nil, puts_cons, putN_pt, stR_v, stR_f, pt_un, pt_val, pt_f, tab_runE, RV.d, List.replicate, ir_ratio_text, ix0, ix1, e_int, hp, s1, s2, s_slash, a1, a2, txt]
  · refine ret_of (e := [.val (rD p)]) 1 1 ir__law_text rfl rfl rfl rfl ?_ rfl
    by_cases hp : p.2 = 1 <;> simp [exS, evr, ev, evs, eva, evi, rdV, callF, mkArgs, mkArg, isS, noTwice, putBack, Out.bind, Out.so, Out.opt, SO.seq, SO.opt, SO.ifb, putT_n, putT_t, puts_nil, puts_cons, putN_pt, stR_v, stR_f, pt_un, pt_val, pt_f, tab_runE, RV.d, List.replicate, ir__law_text, ix0, ix1, e_int, hp, s1, s2, s_slash, a1, a2, txt]
/-- read back -/
theorem txt_back {p : Int × Int} (h : R 134 p) (hg : gcdI p.1 p.2 = 1) : frT (txt p) = rD p := by
  obtain ⟨g1, v1, n1⟩ := sg_ok p.1
  obtain ⟨g2, v2, n2⟩ := sg_ok p.2
  unfold frT rr txt
  by_cases hp : p.2 = 1
  · rw [if_pos hp, spl_none n1]
    show (match (if gw (sg p.1) then some (valI (sg p.1), (1 : Int)) else none) with | some p => rD p | none => D.str "<0>") = _
    rw [g1, if_pos rfl, v1]
    show rD (p.1, 1) = rD p
    rw [← hp]
  · rw [if_neg hp, spl_some n1, spl_none n2]
    show (match (if gw (sg p.1) && gw (sg p.2) && rrB (valI (sg p.1)) (valI (sg p.2)) then some (valI (sg p.1), valI (sg p.2)) else none) with | some p => rD p | none => D.str "<0>") = _
    have : rrB p.1 p.2 = true := by simp [rrB, h.pos, hg, hp]
    rw [g1, g2, v1, v2, this]
    rfl
end Lw

set_option Elab.async false
set_option linter.all false
set_option maxRecDepth 100000
namespace Lw
open PySem L2 Eng TL
theorem sg_len2 (i : Int) (h : Bd 269 i) : (sg i).length ≤ 84 := by
  have h41 : (2 : Nat) ^ 269 ≤ 10 ^ 82 := by decide
  have key : ∀ n : Nat, n < 2 ^ 269 → (numL n).length ≤ 82 := fun n hn => numL_len (by omega) (Nat.lt_of_lt_of_le hn h41)
  unfold Bd at h
  by_cases h0 : 0 ≤ i
  · obtain ⟨n, rfl⟩ := Int.eq_ofNat_of_zero_le h0
    rw [sg_nat]
    have := key n (by omega)
    omega
  · obtain ⟨n, hn⟩ : ∃ n : Nat, i = -(n : Int) := ⟨i.natAbs, by omega⟩
    subst hn
    rw [sg_neg n (by omega)]
    have := key n (by omega)
    simp
    omega
theorem shown_int (i : Int) (h : Bd 269 i) : (PyData.int i).shown.length ≤ 84 := by
  have e : (PyData.int i).shown = Str.ofString (toString i) := by simp only [PyData.shown]
  rw [e, len_tl]
  exact sg_len2 i h
theorem tup_len (a b : Str) : (tupleText [a, b]).length = a.length + b.length + 4 := by
  show (("(" : Str) ++ (a ++ ", " ++ b) ++ (")" : Str)).length = _
  rw [strLen_append, strLen_append, strLen_append, strLen_append]
  have e1 : ("(" : Str).length = 1 := rfl
  have e2 : (", " : Str).length = 2 := rfl
  have e3 : (")" : Str).length = 1 := rfl
  omega
theorem lst_len (a b c : Str) : (listText [a, b, c]).length = a.length + b.length + c.length + 6 := by
  show (((((("[" : Str) ++ ("" : Str) ++ a) ++ (", " : Str) ++ b) ++ (", " : Str) ++ c)) ++ ("]" : Str)).length = _
  simp only [strLen_append]
  have e1 : ("[" : Str).length = 1 := rfl
  have e2 : (", " : Str).length = 2 := rfl
  have e3 : ("]" : Str).length = 1 := rfl
  have e4 : ("" : Str).length = 0 := rfl
  omega
theorem shown_r {p : Int × Int} (h : R 269 p) : (rD p).py.shown.length ≤ 172 := by
  have h1 := shown_int _ h.n
  have h2 := shown_int _ h.d
  have e : (rD p).py.shown = tupleText [(PyData.int p.1).shown, (PyData.int p.2).shown] := by
    simp only [rD, D.py, D.pys, PyData.shown, PyData.shownAll]
  rw [e, tup_len]
  omega
theorem show_r {p : Int × Int} (h : R 269 p) : (rD p).py.showable = true := by
  have h1 := h.n.log
  have h2 := h.d.log
  show (decide (p.1.natAbs.log2 < 1920) && (decide (p.2.natAbs.log2 < 1920) && true)) = true
  rw [decide_eq_true (show p.1.natAbs.log2 < 1920 by omega), decide_eq_true (show p.2.natAbs.log2 < 1920 by omega)]
  rfl
theorem sg_small (i : Int) : ∀ c ∈ sg i, c < 128 := by
  have key : ∀ n : Nat, ∀ c ∈ numL n, c < 128 := fun n c hc => by
    have := numL_digits n c hc
    omega
  by_cases h0 : 0 ≤ i
  · obtain ⟨n, rfl⟩ := Int.eq_ofNat_of_zero_le h0
    rw [sg_nat]
    exact key n
  · obtain ⟨n, hn⟩ : ∃ n : Nat, i = -(n : Int) := ⟨i.natAbs, by omega⟩
    subst hn
    rw [sg_neg n (by omega)]
    intro c hc
    rcases List.mem_cons.mp hc with z | z
    · omega
    · exact key n c z
theorem txt_small (p : Int × Int) : ∀ c ∈ txt p, c < 128 := by
  intro c hc
  unfold txt at hc
  split at hc
  · exact sg_small _ c hc
  · rcases List.mem_append.mp hc with z | z
    · exact sg_small _ c z
    · rcases List.mem_cons.mp z with z | z
      · omega
      · exact sg_small _ c z
theorem repr_ok {p q r : Int × Int} (hp : R 269 p) (hq : R 269 q) (hr : R 134 r) : ∃ z, pRepr [.lst [rD p, rD q, .str (mkS (txt r))]] = some (.str z) := by
  refine ⟨(D.lst [rD p, rD q, .str (mkS (txt r))]).py.shown, ?_⟩
  have e : (D.lst [rD p, rD q, .str (mkS (txt r))]).py.shown = listText [(rD p).py.shown, (rD q).py.shown, reprText (mkS (txt r))] := by
    simp only [D.py, D.pys, PyData.shown, PyData.shownAll]
  have h1 := shown_r hp
  have h2 := shown_r hq
  have h3 := PySem.StrLaws.reprText_len (mkS (txt r)) (fun c hc => Nat.lt_of_lt_of_le (txt_small r c hc) (by decide))
  rw [mkS_len] at h3
  have h4 := txt_len hr
  have hl : (D.lst [rD p, rD q, .str (mkS (txt r))]).py.shown.length ≤ 16777216 := by rw [e, lst_len]; omega
  have hs : (D.lst [rD p, rD q, .str (mkS (txt r))]).py.showable = true := by
    show ((rD p).py.showable && ((rD q).py.showable && (true && true))) = true
    rw [show_r hp, show_r hq]
    rfl
  have hd : (D.lst [rD p, rD q, .str (mkS (txt r))]).py.depth < 100 := by
    show max (max 0 (max 0 0) + 1) (max (max 0 (max 0 0) + 1) (max 0 0)) + 1 < 100
    decide
  have hpl : (D.lst [rD p, rD q, .str (mkS (txt r))]).plain = true := rfl
  show (if ((D.lst [rD p, rD q, .str (mkS (txt r))]).plain && (D.lst [rD p, rD q, .str (mkS (txt r))]).py.showable && decide ((D.lst [rD p, rD q, .str (mkS (txt r))]).py.depth < 100) && decide ((D.lst [rD p, rD q, .str (mkS (txt r))]).py.shown.length ≤ 16777216)) = true then _ else _) = _
  rw [hpl, hs, decide_eq_true hd, decide_eq_true hl]
  rfl
/-! ### lowest terms -/
theorem low_red {n d : Int} (h : d ≠ 0) : gcdI (low n d).1 (low n d).2 = 1 := by
  have hg := gcdI_pos (n := n) h
  have key : ∀ a b : Int, a.natAbs = n.natAbs → b.natAbs = d.natAbs → gcdI (a.fdiv (gcdI n d)) (b.fdiv (gcdI n d)) = 1 := fun a b ha hb => by
    have e1 : (a.fdiv (gcdI n d)).natAbs = n.natAbs / Nat.gcd d.natAbs n.natAbs := by
      rw [Int.fdiv_eq_ediv_of_nonneg _ (by omega)]
      have dv : gcdI n d ∣ a := by
        unfold gcdI
        exact Int.ofNat_dvd_left.mpr (by rw [ha]; exact Nat.gcd_dvd_right _ _)
      rw [Int.natAbs_ediv_of_dvd dv, ha]
      rfl
    have e2 : (b.fdiv (gcdI n d)).natAbs = d.natAbs / Nat.gcd d.natAbs n.natAbs := by
      rw [Int.fdiv_eq_ediv_of_nonneg _ (by omega)]
      have dv : gcdI n d ∣ b := by
        unfold gcdI
        exact Int.ofNat_dvd_left.mpr (by rw [hb]; exact Nat.gcd_dvd_left _ _)
      rw [Int.natAbs_ediv_of_dvd dv, hb]
      rfl
    unfold gcdI at e1 e2 ⊢
    rw [e1, e2, Nat.gcd_div (Nat.gcd_dvd_left _ _) (Nat.gcd_dvd_right _ _), Nat.div_self (Nat.gcd_pos_of_pos_left _ (by omega))]
    rfl
  unfold low
  by_cases hl : d < 0
  · rw [if_pos hl]; exact key _ _ (Int.natAbs_neg n) (Int.natAbs_neg d)
  · rw [if_neg hl]; exact key _ _ rfl rfl
/-- a ratio in lowest terms -/
structure Rl (k : Nat) (p : Int × Int) : Prop extends R k p where
  red : gcdI p.1 p.2 = 1
theorem low_Rl {k : Nat} {n d : Int} (h : d ≠ 0) (hn : Bd k n) (hd : Bd k d) : Rl k (low n d) := ⟨low_R h hn hd, low_red h⟩
/-- nothing added -/
theorem plus_zero {k l : Nat} {s a : Int × Int} (hs : Rl k s) (ha : R l a) (h0 : a.1 = 0) : plusP s a = s := by
  have hp := ha.pos
  have hsp := hs.pos
  unfold plusP
  rw [h0, Int.zero_mul, Int.add_zero]
  have hg : gcdI (s.1 * a.2) (s.2 * a.2) = a.2 := by
    have hr := hs.red
    unfold gcdI at hr ⊢
    rw [Int.natAbs_mul, Int.natAbs_mul, Nat.gcd_mul_right]
    have : Nat.gcd s.2.natAbs s.1.natAbs = 1 := by omega
    rw [this]
    omega
  have hpos : 0 < s.2 * a.2 := Int.mul_pos hsp hp
  unfold low
  rw [if_neg (by omega), hg, Int.fdiv_eq_ediv_of_nonneg _ (by omega), Int.fdiv_eq_ediv_of_nonneg _ (by omega), Int.mul_ediv_cancel _ (by omega), Int.mul_ediv_cancel _ (by omega)]
end Lw

set_option Elab.async false
set_option linter.all false
set_option maxRecDepth 100000
namespace Lw
open PySem L2 Eng TL
theorem n_same_b (b : Bool) : pNe [.bl b, .bl b] = some (.bl false) := by cases b <;> rfl
theorem addL (xs ys : List D) (h : xs.length + ys.length ≤ 16777216) : pAdd [.lst xs, .lst ys] = some (.lst (xs ++ ys)) := by
  show (if xs.length + ys.length ≤ 16777216 then some (D.lst (xs ++ ys)) else none) = _
  rw [if_pos h]
theorem ask_r0 : pIx [.lst [.fn 4, .fn 9], .int 0] = some (.fn 4) := rfl
theorem ask_r1 : pIx [.lst [.fn 4, .fn 9], .int 1] = some (.fn 9) := rfl
theorem tupI (n d : Int) : pTup [.int n, .int d] = some (rD (n, d)) := rfl
section
variable (k : Nat) (s0 s3 s4 s5 s6 s7 s8 s9 s10 s11 s12 s13 s14 : Slo)
theorem step0 (S : St) (h : S.Ok) (fs : List (Int × Int)) (hfs : ∀ p ∈ fs, Rl 134 p) (hfl : fs.length ≤ 1000) (h4 : Fre s4) (h5 : Fre s5) (h6 : Fre s6) :
    ∃ (S' : St) (fs' : List (Int × Int)) (t4 t5 t6 : Slo), S'.Ok ∧ (∀ p ∈ fs', Rl 134 p) ∧ fs'.length ≤ fs.length + 1 ∧ Fre t4 ∧ Fre t5 ∧ Fre t6 ∧
    exS (tabD DF (k + 5)) lb_law_0 [s0, .mt false (.lst S.d), .val (.lst (fs.map rD)), s3, s4, s5, s6, s7, s8, s9, s10, s11, s12, s13, s14] = .nx [s0, .mt false (.lst S'.d), .val (.lst (fs'.map rD)), s3, t4, t5, t6, s7, s8, s9, s10, s11, s12, s13, s14] := by
  obtain ⟨S1, n, o1, bn, t1⟩ := number_ok (k + 3) S h
  obtain ⟨S2, d, o2, bd, t2⟩ := number_ok (k + 3) S1 o1
  have p4 := h4.pt
  have p5 := h5.pt
  have p6 := h6.pt
  have hi := isr_ok (k + 3) n d (bd.mono (by omega))
  have A : exS (tabD DF (k + 5)) (.par 4 5 (.val (.call 19 (.s 1 (.nil)))) (.val (.call 19 (.s 1 (.nil))))) [s0, .mt false (.lst S.d), .val (.lst (fs.map rD)), s3, s4, s5, s6, s7, s8, s9, s10, s11, s12, s13, s14] = .nx [s0, .mt false (.lst S2.d), .val (.lst (fs.map rD)), s3, .val (.int n), .val (.int d), s6, s7, s8, s9, s10, s11, s12, s13, s14] := by
    simp [exS, evr, ev, evs, eva, evi, rdV, callF, mkArgs, mkArg, isS, noTwice, putBack, Out.bind, Out.so, Out.opt, SO.seq, SO.opt, SO.ifb, putT_n, putT_t, puts_nil, puts_cons, putN_pt, stR_v, stR_f, pt_un, pt_val, pt_f, tab_runE, RV.d, List.replicate, bnd, t1, t2, p4, p5]
  by_cases hd : d = 0
  · subst hd
    have ha : runD DF (k + 5) 22 [.val (.int 0), .val (.int n), .val (.int 0)] = .ok (.v (.str "<malformed>")) [.val (.int 0), .val (.int n), .val (.int 0)] := ask_no (k + 3) 0 4 (.int n) (.int 0) ask_r0 (by omega) (ratio_no (k + 2) n)
    have ad := addL (fs.map rD) [] (by simp; omega)
    have hl0 : pLst [] = some (.lst []) := rfl
    refine ⟨S2, fs, .val (.int n), .val (.int 0), .val (.str "<malformed>"), o2, hfs, by omega, fre_val _, fre_val _, fre_val _, ?_⟩
    refine Eq.trans (seq_nx A) (Eq.trans (seq_nx (e1 := [s0, .mt false (.lst S2.d), .val (.lst (fs.map rD)), s3, .val (.int n), .val (.int 0), .val (.str "<malformed>"), s7, s8, s9, s10, s11, s12, s13, s14]) ?_) (Eq.trans (seq_nx (ife_no ?_)) ?_))
    · simp [exS, evr, ev, evs, eva, evi, rdV, callF, mkArgs, mkArg, isS, noTwice, putBack, Out.bind, Out.so, Out.opt, SO.seq, SO.opt, SO.ifb, putT_n, putT_t, puts_nil, puts_cons, putN_pt, stR_v, stR_f, pt_un, pt_val, pt_f, tab_runE, RV.d, List.replicate, e_int, p6]
    · simp [exS, evr, ev, evs, eva, evi, rdV, callF, mkArgs, mkArg, isS, noTwice, putBack, Out.bind, Out.so, Out.opt, SO.seq, SO.opt, SO.ifb, putT_n, putT_t, puts_nil, puts_cons, putN_pt, stR_v, stR_f, pt_un, pt_val, pt_f, tab_runE, RV.d, List.replicate, ha, n_same_s, tupI, hi, pGt, n_same_b]
    · simp [exS, evr, ev, evs, eva, evi, rdV, callF, mkArgs, mkArg, isS, noTwice, putBack, Out.bind, Out.so, Out.opt, SO.seq, SO.opt, SO.ifb, putT_n, putT_t, puts_nil, puts_cons, putN_pt, stR_v, stR_f, pt_un, pt_val, pt_f, tab_runE, RV.d, List.replicate, n_int, hl0, ad]
  · have ha := ask_ok (k + 3) 0 4 (.int n) (.int d) _ ask_r0 (by omega) (ratio_ok (k + 1) n d hd (bd.mono (by omega)))
    have hw := law_low (k + 4) n d hd (bd.mono (by omega))
    have ad := addL (fs.map rD) [rD (low n d)] (by simp; omega)
    have hl1 : pLst [rD (low n d)] = some (.lst [rD (low n d)]) := rfl
    have e1 := e_r (low n d) (n, d)
    refine ⟨S2, fs ++ [low n d], .val (.int n), .val (.int d), .val (rD (low n d)), o2, ?_, by simp, fre_val _, fre_val _, fre_val _, ?_⟩
    · intro p hp
      rcases List.mem_append.mp hp with z | z
      · exact hfs p z
      · rw [List.mem_singleton.mp z]
        exact low_Rl hd bn bd
    refine Eq.trans (seq_nx A) (Eq.trans (seq_nx (e1 := [s0, .mt false (.lst S2.d), .val (.lst (fs.map rD)), s3, .val (.int n), .val (.int d), .val (rD (low n d)), s7, s8, s9, s10, s11, s12, s13, s14]) ?_) (Eq.trans (seq_nx (ife_no ?_)) ?_))
    · simp [exS, evr, ev, evs, eva, evi, rdV, callF, mkArgs, mkArg, isS, noTwice, putBack, Out.bind, Out.so, Out.opt, SO.seq, SO.opt, SO.ifb, putT_n, putT_t, puts_nil, puts_cons, putN_pt, stR_v, stR_f, pt_un, pt_val, pt_f, tab_runE, RV.d, List.replicate, e_int, hd, hw, p6]
    · by_cases hp : 0 < d
      · have e2 : decide (low n d = (n, d)) = decide (gcdI n d = 1) := by
          by_cases hq : gcdI n d = 1
          · rw [decide_eq_true hq, decide_eq_true ((low_id hp).mpr hq)]
          · rw [decide_eq_false hq, decide_eq_false (mt (low_id hp).mp hq)]
        rw [e2] at e1
        rw [decide_eq_true hp, Bool.true_and] at hi
        have g : pGt [.int d, .int 0] = some (.bl true) := by simp [pGt, hp]
        generalize decide (gcdI n d = 1) = b at hi e1
        cases b <;> simp [exS, evr, ev, evs, eva, evi, rdV, callF, mkArgs, mkArg, isS, noTwice, putBack, Out.bind, Out.so, Out.opt, SO.seq, SO.opt, SO.ifb, putT_n, putT_t, puts_nil, puts_cons, putN_pt, stR_v, stR_f, pt_un, pt_val, pt_f, tab_runE, RV.d, List.replicate, ha, n_same_r, tupI, hi, g, e1, n_same_b]
      · simp [exS, evr, ev, evs, eva, evi, rdV, callF, mkArgs, mkArg, isS, noTwice, putBack, Out.bind, Out.so, Out.opt, SO.seq, SO.opt, SO.ifb, putT_n, putT_t, puts_nil, puts_cons, putN_pt, stR_v, stR_f, pt_un, pt_val, pt_f, tab_runE, RV.d, List.replicate, ha, n_same_r, tupI, hi, pGt, hp, n_same_b]
    · simp [exS, evr, ev, evs, eva, evi, rdV, callF, mkArgs, mkArg, isS, noTwice, putBack, Out.bind, Out.so, Out.opt, SO.seq, SO.opt, SO.ifb, putT_n, putT_t, puts_nil, puts_cons, putN_pt, stR_v, stR_f, pt_un, pt_val, pt_f, tab_runE, RV.d, List.replicate, n_int, hd, hl1, ad]
end
end Lw

set_option Elab.async false
set_option linter.all false
set_option maxRecDepth 100000
namespace Lw
open PySem L2 Eng TL
theorem scale {k : Nat} {s : Int × Int} (hs : Rl k s) {c : Int} (hc : 0 < c) : low (s.1 * c) (s.2 * c) = s := by
  have := plus_zero (k := k) (l := c.natAbs + 1) (s := s) (a := (0, c)) hs ⟨by unfold Bd; exact Nat.two_pow_pos _, by unfold Bd; exact Nat.lt_of_lt_of_le Nat.lt_two_pow_self (Nat.pow_le_pow_right (by omega) (by omega)), hc⟩ rfl
  unfold plusP at this
  rw [Int.zero_mul, Int.add_zero] at this
  exact this
theorem red_eq {k : Nat} {p q : Int × Int} (hp : Rl k p) (hq : Rl k q) (h : p.1 * q.2 = q.1 * p.2) : p = q := by
  have h1 := scale hp hq.pos
  have h2 := scale hq hp.pos
  rw [← h, Int.mul_comm q.2 p.2] at h2
  exact h1.symm.trans h2
theorem lesserP {k : Nat} {p q : Int × Int} (hp : Rl k p) (hq : Rl k q) : (if belowP q p then q else p) = (if belowP p q then p else q) := by
  unfold belowP
  by_cases h1 : p.1 * q.2 < q.1 * p.2
  · have h2 : ¬ q.1 * p.2 < p.1 * q.2 := by omega
    simp [h1, h2]
  · by_cases h2 : q.1 * p.2 < p.1 * q.2
    · simp [h1, h2]
    · have e := red_eq hp hq (by omega)
      simp [h1, h2, e]
theorem ixF (fs : List (Int × Int)) (r : Int) (h0 : 0 ≤ r) (h1 : r < fs.length) : ∃ p ∈ fs, pIx [.lst (fs.map rD), .int r] = some (rD p) := by
  have hn : r.toNat < fs.length := by omega
  refine ⟨fs[r.toNat], List.getElem_mem hn, ?_⟩
  show atI (fs.map rD) r = _
  unfold atI ixN
  rw [List.length_map, if_pos h0, if_pos h1]
  simp [hn]
theorem lenF (fs : List (Int × Int)) : pLen [.lst (fs.map rD)] = some (.int fs.length) := by
  show some (D.int (fs.map rD).length) = _
  rw [List.length_map]
section
variable (k : Nat) (s0 s3 s4 s5 s6 s7 s8 s9 s10 s11 s12 s13 s14 : Slo)
theorem step1 (S : St) (h : S.Ok) (fs : List (Int × Int)) (hfs : ∀ p ∈ fs, Rl 134 p) (hf0 : 0 < fs.length) (hfl : fs.length ≤ 1000) (h7 : Fre s7) (h8 : Fre s8) (h9 : Fre s9) (h10 : Fre s10) :
    ∃ (S' : St) (t7 t8 t9 t10 : Slo), S'.Ok ∧ Fre t7 ∧ Fre t8 ∧ Fre t9 ∧ Fre t10 ∧
    exS (tabD DF (k + 5)) lb_law_1 [s0, .mt false (.lst S.d), .val (.lst (fs.map rD)), s3, s4, s5, s6, s7, s8, s9, s10, s11, s12, s13, s14] = .nx [s0, .mt false (.lst S'.d), .val (.lst (fs.map rD)), s3, s4, s5, s6, t7, t8, t9, t10, s11, s12, s13, s14] := by
  have hb : Bd 8000 (fs.length : Int) := by
    unfold Bd
    have : (2 : Nat) ^ 10 ≤ 2 ^ 8000 := Nat.pow_le_pow_right (by omega) (by omega)
    omega
  obtain ⟨S1, r1, o1, a1, b1, t1⟩ := take_ok (k + 4) S h fs.length (by omega) hb
  obtain ⟨S2, r2, o2, a2, b2, t2⟩ := take_ok (k + 4) S1 o1 fs.length (by omega) hb
  obtain ⟨p, hp, x1⟩ := ixF fs r1 a1 b1
  obtain ⟨q, hq, x2⟩ := ixF fs r2 a2 b2
  have hl := lenF fs
  have lp := hfs p hp
  have lq := hfs q hq
  have p7 := h7.pt
  have p8 := h8.pt
  have p9 := h9.pt
  have p10 := h10.pt
  have rp : R 2000 p := lp.toR.mono (by omega)
  have rq : R 2000 q := lq.toR.mono (by omega)
  obtain ⟨m1, m2, m3, m4, m5⟩ := cross rp rq
  have bn : Bd 269 (p.1 * q.2 + q.1 * p.2) := (lp.n.mul lq.d).add (lq.n.mul lp.d)
  have bm : Bd 269 (p.1 * q.2 - q.1 * p.2) := (lp.n.mul lq.d).sub (lq.n.mul lp.d)
  have bd : Bd 269 (p.2 * q.2) := (lp.d.mul lq.d).mono (by omega)
  have bt : Bd 269 (p.1 * q.1) := (lp.n.mul lq.n).mono (by omega)
  have dn := den rp rq
  have hpl := plus_ok (k + 2) rp rq
  have hmi := minus_ok (k + 2) rp rq
  have hti := times_ok (k + 2) rp rq
  have w1 := law_low (k + 4) (p.1 * q.2 + q.1 * p.2) (p.2 * q.2) dn (bd.mono (by omega))
  have w2 := law_low (k + 4) (p.1 * q.2 - q.1 * p.2) (p.2 * q.2) dn (bd.mono (by omega))
  have w3 := law_low (k + 4) (p.1 * q.1) (p.2 * q.2) dn (bd.mono (by omega))
  have A : exS (tabD DF (k + 5)) (.par 7 8 (.val (.prim pIx (.cons (.v 2) (.cons (.call 17 (.s 1 (.e (.prim pLen (.cons (.v 2) (.nil))) (.nil)))) .nil)))) (.val (.prim pIx (.cons (.v 2) (.cons (.call 17 (.s 1 (.e (.prim pLen (.cons (.v 2) (.nil))) (.nil)))) .nil))))) [s0, .mt false (.lst S.d), .val (.lst (fs.map rD)), s3, s4, s5, s6, s7, s8, s9, s10, s11, s12, s13, s14] = .nx [s0, .mt false (.lst S2.d), .val (.lst (fs.map rD)), s3, s4, s5, s6, .val (rD p), .val (rD q), s9, s10, s11, s12, s13, s14] := by
    simp [exS, evr, ev, evs, eva, evi, rdV, callF, mkArgs, mkArg, isS, noTwice, putBack, Out.bind, Out.so, Out.opt, SO.seq, SO.opt, SO.ifb, putT_n, putT_t, puts_nil, puts_cons, putN_pt, stR_v, stR_f, pt_un, pt_val, pt_f, tab_runE, RV.d, List.replicate, bnd, hl, t1, t2, x1, x2, p7, p8]
  have hlst : pLst [rD (plusP p q), rD (timesP p q)] = some (.lst [rD (plusP p q), rD (timesP p q)]) := rfl
  obtain ⟨tx1, tx2⟩ := texts_ok (k + 4) lp.toR
  have hl3 : pLst [rD (plusP p q), rD (timesP p q), .str (mkS (txt p))] = some (.lst [rD (plusP p q), rD (timesP p q), .str (mkS (txt p))]) := rfl
  have hl1 : pLst [.str (mkS (txt p))] = some (.lst [.str (mkS (txt p))]) := rfl
  have had := addL [rD (plusP p q), rD (timesP p q)] [.str (mkS (txt p))] (by simp)
  obtain ⟨z, hz⟩ := repr_ok (low_R dn bn bd) (low_R dn bt bd) lp.toR
  have hbe := below_ok (k + 4) rp rq
  have hle := lesser_ok (k + 3) rp rq
  have hgr := greater_ok (k + 3) rp rq
  rw [lesserP lp lq] at hle
  have hrd := read1 (k + 1) (txt p) (by have := txt_len lp.toR; omega)
  rw [txt_back lp.toR lp.red] at hrd
  refine ⟨S2, .val (rD p), .val (rD q), .val (.lst [rD (plusP p q), rD (timesP p q)]), .val (.bl (belowP p q)), o2, fre_val _, fre_val _, fre_val _, fre_val _, ?_⟩
  refine Eq.trans (seq_nx A) (Eq.trans (seq_nx (ife_no ?c1)) (Eq.trans (seq_nx (ife_no ?c2)) (Eq.trans (seq_nx (e1 := [s0, .mt false (.lst S2.d), .val (.lst (fs.map rD)), s3, s4, s5, s6, .val (rD p), .val (rD q), .val (.lst [rD (plusP p q), rD (timesP p q)]), s10, s11, s12, s13, s14]) ?c3) (Eq.trans (seq_nx (ife_no ?c4)) (Eq.trans (seq_nx (e1 := [s0, .mt false (.lst S2.d), .val (.lst (fs.map rD)), s3, s4, s5, s6, .val (rD p), .val (rD q), .val (.lst [rD (plusP p q), rD (timesP p q)]), .val (.bl (belowP p q)), s11, s12, s13, s14]) ?c5) (Eq.trans (seq_nx (ife_no ?c6)) (ife_no ?c7)))))))
  case c1 =>
    have n1 : pNe [rD (plusP p q), rD (low (p.1 * q.2 + q.1 * p.2) (p.2 * q.2))] = some (.bl false) := n_same_r _
    have n2 : pNe [rD (minusP p q), rD (low (p.1 * q.2 - q.1 * p.2) (p.2 * q.2))] = some (.bl false) := n_same_r _
    simp [exS, evr, ev, evs, eva, evi, rdV, callF, mkArgs, mkArg, isS, noTwice, putBack, Out.bind, Out.so, Out.opt, SO.seq, SO.opt, SO.ifb, putT_n, putT_t, puts_nil, puts_cons, putN_pt, stR_v, stR_f, pt_un, pt_val, pt_f, tab_runE, RV.d, List.replicate, hpl, hmi, w1, w2, ix0, ix1, mul_ok m1, mul_ok m2, mul_ok m3, add_i, pSub, n1, n2]
  case c2 =>
    have n1 : pNe [rD (timesP p q), rD (low (p.1 * q.1) (p.2 * q.2))] = some (.bl false) := n_same_r _
    by_cases hz0 : q.1 = 0
    · have ha : runD DF (k + 5) 22 [.val (.int 1), .val (rD p), .val (rD q)] = .ok (.v (.str "<malformed>")) [.val (.int 1), .val (rD p), .val (rD q)] := ask_no (k + 3) 1 9 _ _ ask_r1 (by omega) (over_no (k + 3) hz0)
      have ez : pEq [.int q.1, .int 0] = some (.bl true) := by rw [e_int, hz0]; rfl
      simp [exS, evr, ev, evs, eva, evi, rdV, callF, mkArgs, mkArg, isS, noTwice, putBack, Out.bind, Out.so, Out.opt, SO.seq, SO.opt, SO.ifb, putT_n, putT_t, puts_nil, puts_cons, putN_pt, stR_v, stR_f, pt_un, pt_val, pt_f, tab_runE, RV.d, List.replicate, hti, w3, ix0, ix1, mul_ok m4, mul_ok m3, n1, ha, ez, n_same_s]
    · have ha : runD DF (k + 5) 22 [.val (.int 1), .val (rD p), .val (rD q)] = .ok (.v (rD (overP p q))) [.val (.int 1), .val (rD p), .val (rD q)] := ask_ok (k + 3) 1 9 _ _ _ ask_r1 (by omega) (over_ok (k + 1) rp rq hz0)
      have w4 := law_low (k + 4) (p.1 * q.2) (p.2 * q.1) (Int.mul_ne_zero (by have := lp.pos; omega) hz0) ((lp.d.mul lq.n).mono (by omega))
      have n2 : pNe [rD (overP p q), rD (low (p.1 * q.2) (p.2 * q.1))] = some (.bl false) := n_same_r _
      simp [exS, evr, ev, evs, eva, evi, rdV, callF, mkArgs, mkArg, isS, noTwice, putBack, Out.bind, Out.so, Out.opt, SO.seq, SO.opt, SO.ifb, putT_n, putT_t, puts_nil, puts_cons, putN_pt, stR_v, stR_f, pt_un, pt_val, pt_f, tab_runE, RV.d, List.replicate, hti, w3, w4, ix0, ix1, mul_ok m1, mul_ok m4, mul_ok m3, mul_ok m5, n1, n2, ha, e_int, hz0]
  case c3 =>
    have hl2 : pLst [rD (low (p.1 * q.2 + q.1 * p.2) (p.2 * q.2)), rD (low (p.1 * q.1) (p.2 * q.2))] = some (.lst [rD (plusP p q), rD (timesP p q)]) := rfl
    simp [exS, evr, ev, evs, eva, evi, rdV, callF, mkArgs, mkArg, isS, noTwice, putBack, Out.bind, Out.so, Out.opt, SO.seq, SO.opt, SO.ifb, putT_n, putT_t, puts_nil, puts_cons, putN_pt, stR_v, stR_f, pt_un, pt_val, pt_f, tab_runE, RV.d, List.replicate, w1, w3, ix0, ix1, mul_ok m1, mul_ok m2, mul_ok m3, mul_ok m4, add_i, hl2, p9]
  case c4 =>
    have hz' : pRepr [.lst ([rD (plusP p q), rD (timesP p q)] ++ [.str (mkS (txt p))])] = some (.str z) := hz
    have hz'' : pRepr [.lst [rD (plusP p q), rD (timesP p q), .str (mkS (txt p))]] = some (.str z) := hz
    simp [exS, evr, ev, evs, eva, evi, rdV, callF, mkArgs, mkArg, isS, noTwice, putBack, Out.bind, Out.so, Out.opt, SO.seq, SO.opt, SO.ifb, putT_n, putT_t, puts_nil, puts_cons, putN_pt, stR_v, stR_f, pt_un, pt_val, pt_f, tab_runE, RV.d, List.replicate, hpl, hti, tx1, tx2, hl3, hl1, had, hz'', n_same_s]
  case c5 => simp [exS, evr, ev, evs, eva, evi, rdV, callF, mkArgs, mkArg, isS, noTwice, putBack, Out.bind, Out.so, Out.opt, SO.seq, SO.opt, SO.ifb, putT_n, putT_t, puts_nil, puts_cons, putN_pt, stR_v, stR_f, pt_un, pt_val, pt_f, tab_runE, RV.d, List.replicate, ix0, ix1, mul_ok m1, mul_ok m2, pLt, belowP, p10]
  case c6 =>
    cases hc : belowP p q with
    | true =>
      rw [hc] at hbe hle hgr
      simp only [if_true] at hle hgr
      simp [exS, evr, ev, evs, eva, evi, rdV, callF, mkArgs, mkArg, isS, noTwice, putBack, Out.bind, Out.so, Out.opt, SO.seq, SO.opt, SO.ifb, putT_n, putT_t, puts_nil, puts_cons, putN_pt, stR_v, stR_f, pt_un, pt_val, pt_f, tab_runE, RV.d, List.replicate, hbe, hle, hgr, n_same_b, n_same_r]
    | false =>
      rw [hc] at hbe hle hgr
      simp only [Bool.false_eq_true, if_false] at hle hgr
      simp [exS, evr, ev, evs, eva, evi, rdV, callF, mkArgs, mkArg, isS, noTwice, putBack, Out.bind, Out.so, Out.opt, SO.seq, SO.opt, SO.ifb, putT_n, putT_t, puts_nil, puts_cons, putN_pt, stR_v, stR_f, pt_un, pt_val, pt_f, tab_runE, RV.d, List.replicate, hbe, hle, hgr, n_same_b, n_same_r]
  case c7 => simp [exS, evr, ev, evs, eva, evi, rdV, callF, mkArgs, mkArg, isS, noTwice, putBack, Out.bind, Out.so, Out.opt, SO.seq, SO.opt, SO.ifb, putT_n, putT_t, puts_nil, puts_cons, putN_pt, stR_v, stR_f, pt_un, pt_val, pt_f, tab_runE, RV.d, List.replicate, tx1, tx2, n_same_s, hrd, n_same_r]
end
end Lw

set_option Elab.async false
set_option linter.all false
set_option maxRecDepth 100000
namespace Lw
open PySem L2 Eng TL
theorem plus_Rl {b : Nat} {s a : Int × Int} (hs : Rl b s) (ha : Rl 134 a) : Rl (b + 135) (plusP s a) := by
  have h1 : Bd (b + 134) (s.1 * a.2) := hs.n.mul ha.d
  have h2 : Bd (b + 134) (a.1 * s.2) := (ha.n.mul hs.d).mono (by omega)
  exact low_Rl (Int.ne_of_gt (Int.mul_pos hs.pos ha.pos)) (h1.add h2) ((hs.d.mul ha.d).mono (by omega))
def one : Int × Int := (0, 1)
theorem one_Rl : Rl 1 one := ⟨⟨by unfold Bd; decide, by unfold Bd; decide, by decide⟩, by decide⟩
section
variable (k : Nat) (s0 s1 s3 s4 s5 s6 s7 s8 s10 s11 s12 s13 s14 : Slo)
theorem sum_loop (F : D) : ∀ (fs : List (Int × Int)) (s : Int × Int) (b : Nat) (s7 : Slo), (∀ p ∈ fs, Rl 134 p) → Rl b s → b + 135 * fs.length ≤ 2000 → Fre s7 → ∃ t7, Fre t7 ∧
    evFor (Tg.put (.n 7)) (fun e => exS (tabD DF (k + 5)) lb_law_2 e) (fs.map rD) [s0, s1, .val F, s3, s4, s5, s6, s7, s8, .val (rD s), s10, s11, s12, s13, s14] = .nx [s0, s1, .val F, s3, s4, s5, s6, t7, s8, .val (rD (fs.foldl plusP s)), s10, s11, s12, s13, s14]
  | [], s, b, s7, _, _, _, h7 => ⟨s7, h7, rfl⟩
  | a :: fs, s, b, s7, hf, hs, hb, h7 => by
    have hput : Tg.put (.n 7) (rD a) [s0, s1, .val F, s3, s4, s5, s6, s7, s8, .val (rD s), s10, s11, s12, s13, s14] = some [s0, s1, .val F, s3, s4, s5, s6, .val (rD a), s8, .val (rD s), s10, s11, s12, s13, s14] := by
      have h := h7.pt
      simp [putT_n, putN_pt, h]
    have ha := hf a (List.mem_cons_self ..)
    rw [List.length_cons] at hb
    have rs : R 2000 s := hs.toR.mono (by omega)
    have ra : R 2000 a := ha.toR.mono (by omega)
    obtain ⟨m1, m2, m3, m4, m5⟩ := cross rs ra
    have w := law_low (k + 4) (s.1 * a.2 + a.1 * s.2) (s.2 * a.2) (den rs ra) ((rs.d.mul ra.d).mono (by omega))
    have hbd : exS (tabD DF (k + 5)) lb_law_2 [s0, s1, .val F, s3, s4, s5, s6, .val (rD a), s8, .val (rD s), s10, s11, s12, s13, s14] = .nx [s0, s1, .val F, s3, s4, s5, s6, .val (rD a), s8, .val (rD (plusP s a)), s10, s11, s12, s13, s14] := by
      simp [exS, evr, ev, evs, eva, evi, rdV, callF, mkArgs, mkArg, isS, noTwice, putBack, Out.bind, Out.so, Out.opt, SO.seq, SO.opt, SO.ifb, putT_n, putT_t, puts_nil, puts_cons, putN_pt, stR_v, stR_f, pt_un, pt_val, pt_f, tab_runE, RV.d, List.replicate, lb_law_2, ix0, ix1, mul_ok m1, mul_ok m2, mul_ok m3, add_i, w, plusP]
    obtain ⟨t7, f, ih⟩ := sum_loop F fs (plusP s a) (b + 135) (.val (rD a)) (fun p hp => hf p (List.mem_cons_of_mem _ hp)) (plus_Rl hs ha) (by omega) (fre_val _)
    refine ⟨t7, f, ?_⟩
    show evFor _ _ (rD a :: fs.map rD) _ = _
    unfold evFor
    rw [hput]
    simp only [SO.putThen, hbd, SO.loop]
    exact ih
theorem tot_loop (F : D) : ∀ (fs : List (Int × Int)) (s : Int × Int) (b : Nat) (s2 : Slo), (∀ p ∈ fs, Rl 134 p) → Rl b s → b + 135 * fs.length ≤ 2000 → Fre s2 → ∃ t2, Fre t2 ∧
    evFor (Tg.put (.n 2)) (fun e => exS (tabD DF (k + 3)) lb_total_0 e) (fs.map rD) [.val F, .val (rD s), s2] = .nx [.val F, .val (rD (fs.foldl plusP s)), t2]
  | [], s, b, s2, _, _, _, h2 => ⟨s2, h2, rfl⟩
  | a :: fs, s, b, s2, hf, hs, hb, h2 => by
    have hput : Tg.put (.n 2) (rD a) [.val F, .val (rD s), s2] = some [.val F, .val (rD s), .val (rD a)] := by
      have h := h2.pt
      simp [putT_n, putN_pt, h]
    have ha := hf a (List.mem_cons_self ..)
    rw [List.length_cons] at hb
    have rs : R 2000 s := hs.toR.mono (by omega)
    have ra : R 2000 a := ha.toR.mono (by omega)
    have w := plus_ok k rs ra
    have hbd : exS (tabD DF (k + 3)) lb_total_0 [.val F, .val (rD s), .val (rD a)] = .nx [.val F, .val (rD (plusP s a)), .val (rD a)] := by
      by_cases h0 : a.1 = 0
      · have e := plus_zero hs ha.toR h0
        have n0 : pNe [.int a.1, .int 0] = some (.bl false) := by rw [n_int, h0]; rfl
        rw [e]
        simp [exS, evr, ev, evs, eva, evi, rdV, callF, mkArgs, mkArg, isS, noTwice, putBack, Out.bind, Out.so, Out.opt, SO.seq, SO.opt, SO.ifb, putT_n, putT_t, puts_nil, puts_cons, putN_pt, stR_v, stR_f, pt_un, pt_val, pt_f, tab_runE, RV.d, List.replicate, lb_total_0, ix0, n0]
      · have n0 : pNe [.int a.1, .int 0] = some (.bl true) := by rw [n_int]; simp [h0]
        simp [exS, evr, ev, evs, eva, evi, rdV, callF, mkArgs, mkArg, isS, noTwice, putBack, Out.bind, Out.so, Out.opt, SO.seq, SO.opt, SO.ifb, putT_n, putT_t, puts_nil, puts_cons, putN_pt, stR_v, stR_f, pt_un, pt_val, pt_f, tab_runE, RV.d, List.replicate, lb_total_0, ix0, n0, w]
    obtain ⟨t2, f, ih⟩ := tot_loop F fs (plusP s a) (b + 135) (.val (rD a)) (fun p hp => hf p (List.mem_cons_of_mem _ hp)) (plus_Rl hs ha) (by omega) (fre_val _)
    refine ⟨t2, f, ?_⟩
    show evFor _ _ (rD a :: fs.map rD) _ = _
    unfold evFor
    rw [hput]
    simp only [SO.putThen, hbd, SO.loop]
    exact ih
theorem total_ok (F : D) (fs : List (Int × Int)) (hF : pItems [F] = some (fs.map rD)) (hf : ∀ p ∈ fs, Rl 134 p) (hl : fs.length ≤ 14) : runD DF (k + 4) 11 [.val F] = .ok (.v (rD (fs.foldl plusP one))) [.val F] := by
  obtain ⟨t2, f, h⟩ := tot_loop k F fs one 1 .un hf one_Rl (by omega) fre_un
  refine ret_of (e := [.val F, .val (rD (fs.foldl plusP one)), t2]) 1 3 ir_total rfl rfl rfl rfl ?_ rfl
  have h1 : exS (tabD DF (k + 3)) (.put (.n 1) (.c (.tup [(.int 0), (.int 1)]))) [.val F, .un, .un] = .nx [.val F, .val (rD one), .un] := rfl
  have h2 : exS (tabD DF (k + 3)) fr_total_0 [.val F, .val (rD one), .un] = .nx [.val F, .val (rD (fs.foldl plusP one)), t2] := by
    show (Out.so ((evs (tabD DF (k + 3)) (.cons (.v 0) .nil) [.val F, .val (rD one), .un]).bind fun ds e1 => .opt (pItems ds) e1) fun items e1 => evFor (Tg.put (.n 2)) (fun e => exS (tabD DF (k + 3)) lb_total_0 e) items e1) = _
    have hev : evs (tabD DF (k + 3)) (.cons (.v 0) .nil) [.val F, .val (rD one), .un] = .ok [F] [.val F, .val (rD one), .un] := by simp [exS, evr, ev, evs, eva, evi, rdV, callF, mkArgs, mkArg, isS, noTwice, putBack, Out.bind, Out.so, Out.opt, SO.seq, SO.opt, SO.ifb, putT_n, putT_t, puts_nil, puts_cons, putN_pt, stR_v, stR_f, pt_un, pt_val, pt_f, tab_runE, RV.d, List.replicate]
    rw [hev]
    simp only [Out.bind, hF, Out.opt, Out.so]
    exact h
  exact Eq.trans (seq_nx h1) (Eq.trans (seq_nx h2) rfl)
end
section
variable (k : Nat) (s0 : Slo)
theorem loop0 : ∀ (xs : List D) (S : St) (fs : List (Int × Int)) (s3 s4 s5 s6 s7 s8 s9 s10 s11 s12 s13 s14 : Slo), S.Ok → (∀ p ∈ fs, Rl 134 p) → fs.length + xs.length ≤ 100 → Fre s3 → Fre s4 → Fre s5 → Fre s6 →
    ∃ (S' : St) (fs' : List (Int × Int)) (t3 t4 t5 t6 : Slo), S'.Ok ∧ (∀ p ∈ fs', Rl 134 p) ∧ fs'.length ≤ fs.length + xs.length ∧
    evFor (Tg.put (.n 3)) (fun e => exS (tabD DF (k + 5)) lb_law_0 e) xs [s0, .mt false (.lst S.d), .val (.lst (fs.map rD)), s3, s4, s5, s6, s7, s8, s9, s10, s11, s12, s13, s14] = .nx [s0, .mt false (.lst S'.d), .val (.lst (fs'.map rD)), t3, t4, t5, t6, s7, s8, s9, s10, s11, s12, s13, s14] ∧ Fre t3
  | [], S, fs, s3, s4, s5, s6, s7, s8, s9, s10, s11, s12, s13, s14, h, hf, _, h3, h4, h5, h6 => ⟨S, fs, s3, s4, s5, s6, h, hf, by simp, rfl, h3⟩
  | x :: xs, S, fs, s3, s4, s5, s6, s7, s8, s9, s10, s11, s12, s13, s14, h, hf, hl, h3, h4, h5, h6 => by
    rw [List.length_cons] at hl
    have hput : Tg.put (.n 3) x [s0, .mt false (.lst S.d), .val (.lst (fs.map rD)), s3, s4, s5, s6, s7, s8, s9, s10, s11, s12, s13, s14] = some [s0, .mt false (.lst S.d), .val (.lst (fs.map rD)), .val x, s4, s5, s6, s7, s8, s9, s10, s11, s12, s13, s14] := by
      have h := h3.pt
      simp [putT_n, putN_pt, h]
    obtain ⟨S1, fs1, t4, t5, t6, o1, hf1, hl1, f4, f5, f6, hb⟩ := step0 k s0 (.val x) s4 s5 s6 s7 s8 s9 s10 s11 s12 s13 s14 S h fs hf (by omega) h4 h5 h6
    obtain ⟨S2, fs2, u3, u4, u5, u6, o2, hf2, hl2, ih, g3⟩ := loop0 xs S1 fs1 (.val x) t4 t5 t6 s7 s8 s9 s10 s11 s12 s13 s14 o1 hf1 (by omega) (fre_val _) f4 f5 f6
    refine ⟨S2, fs2, u3, u4, u5, u6, o2, hf2, by rw [List.length_cons]; omega, ?_, g3⟩
    unfold evFor
    rw [hput]
    simp only [SO.putThen, hb, SO.loop]
    exact ih
theorem loop1 (fs : List (Int × Int)) (hf : ∀ p ∈ fs, Rl 134 p) (hf0 : 0 < fs.length) (hfl : fs.length ≤ 1000) : ∀ (xs : List D) (S : St) (s3 s4 s5 s6 s7 s8 s9 s10 s11 s12 s13 s14 : Slo), S.Ok → Fre s3 → Fre s7 → Fre s8 → Fre s9 → Fre s10 →
    ∃ (S' : St) (t3 t7 t8 t9 t10 : Slo), S'.Ok ∧ Fre t7 ∧ Fre t9 ∧
    evFor (Tg.put (.n 3)) (fun e => exS (tabD DF (k + 5)) lb_law_1 e) xs [s0, .mt false (.lst S.d), .val (.lst (fs.map rD)), s3, s4, s5, s6, s7, s8, s9, s10, s11, s12, s13, s14] = .nx [s0, .mt false (.lst S'.d), .val (.lst (fs.map rD)), t3, s4, s5, s6, t7, t8, t9, t10, s11, s12, s13, s14]
  | [], S, s3, s4, s5, s6, s7, s8, s9, s10, s11, s12, s13, s14, h, h3, h7, h8, h9, h10 => ⟨S, s3, s7, s8, s9, s10, h, h7, h9, rfl⟩
  | x :: xs, S, s3, s4, s5, s6, s7, s8, s9, s10, s11, s12, s13, s14, h, h3, h7, h8, h9, h10 => by
    have hput : Tg.put (.n 3) x [s0, .mt false (.lst S.d), .val (.lst (fs.map rD)), s3, s4, s5, s6, s7, s8, s9, s10, s11, s12, s13, s14] = some [s0, .mt false (.lst S.d), .val (.lst (fs.map rD)), .val x, s4, s5, s6, s7, s8, s9, s10, s11, s12, s13, s14] := by
      have h := h3.pt
      simp [putT_n, putN_pt, h]
    obtain ⟨S1, t7, t8, t9, t10, o1, f7, f8, f9, f10, hb⟩ := step1 k s0 (.val x) s4 s5 s6 s7 s8 s9 s10 s11 s12 s13 s14 S h fs hf hf0 hfl h7 h8 h9 h10
    obtain ⟨S2, u3, u7, u8, u9, u10, o2, g7, g9, ih⟩ := loop1 fs hf hf0 hfl xs S1 (.val x) s4 s5 s6 t7 t8 t9 t10 s11 s12 s13 s14 o1 (fre_val _) f7 f8 f9 f10
    refine ⟨S2, u3, u7, u8, u9, u10, o2, g7, g9, ?_⟩
    unfold evFor
    rw [hput]
    simp only [SO.putThen, hb, SO.loop]
    exact ih
end
end Lw

set_option Elab.async false
set_option linter.all false
set_option maxRecDepth 100000
namespace Lw
open PySem L2 Eng TL
theorem ex_seq {T : Tab} {a b : IS} {e e1 : Sls} {r : RV} {x : Slo} (h : exS T a e = .nx e1) (k : ∃ f, exS T b e1 = .ret r (x :: f)) : ∃ f, exS T (.seq a b) e = .ret r (x :: f) := by
  obtain ⟨f, k⟩ := k
  exact ⟨f, (seq_nx h).trans k⟩
theorem for_it {T : Tab} {tg : Tg} {it : II} {b : IS} {e e1 : Sls} {items : List D} {o : SO} (h : evi T it e = .ok items e1) (k : evFor tg.put (fun e => exS T b e) items e1 = o) : exS T (.for tg it b) e = o := by
  simp only [exS, h, Out.so]
  exact k
def sfx : List D := [.str "", .str "0", .str "/", .str "-"]
theorem sfx_at {r : Int} (h0 : 0 ≤ r) (h1 : r < 4) : ∃ l : List Nat, pIx [.lst sfx, .int r] = some (.str (mkS l)) ∧ l.length ≤ 1 := by
  have : r = 0 ∨ r = 1 ∨ r = 2 ∨ r = 3 := by omega
  rcases this with rfl | rfl | rfl | rfl
  · exact ⟨[], rfl, by decide⟩
  · exact ⟨[48], rfl, by decide⟩
  · exact ⟨[47], rfl, by decide⟩
  · exact ⟨[45], rfl, by decide⟩
def tx : List D := [.str "", .str "-", .str "0", .str "-0", .str "00", .str "07", .str "7", .str "-7", .str "+7", .str " 7", .str "7 ", .str "1/2", .str "2/4", .str "1/1", .str "-1/2", .str "1/-2", .str "1/0", .str "0/2", .str "1/02", .str "1//2", .str "/2", .str "1/", .str "a", .non, .int 5, .str "-3/07"]
theorem okS (x : Str) (h : (tl x).length ≤ 640) : okText (.str x) := .inr (.inr ⟨tl x, by rw [mkS_tl], h⟩)
theorem tx_ok : ∀ x ∈ tx, okText x := by
  intro x hx
  simp only [tx, List.mem_cons, List.not_mem_nil, or_false] at hx
  rcases hx with rfl | rfl | rfl | rfl | rfl | rfl | rfl | rfl | rfl | rfl | rfl | rfl | rfl | rfl | rfl | rfl | rfl | rfl | rfl | rfl | rfl | rfl | rfl | rfl | rfl | rfl <;> first
    | exact .inl rfl
    | exact .inr (.inl rfl)
    | exact okS _ (by decide +kernel)
def mal : D := .str "<malformed>"
theorem last_ok (T : Tab) (e : Sls) (hT : T = tabD DF 5) : exS T (.ret (.val (.prim pEq (.cons (.prim pLst (.cons (.call 22 (.e (.c (.int 0)) (.e (.c (.int 1)) (.e (.c (.int 0)) (.nil))))) (.cons (.call 22 (.e (.c (.int 0)) (.e (.c (.bl true)) (.e (.c (.int 1)) (.nil))))) (.cons (.call 22 (.e (.c (.int 0)) (.e (.c (.int 1)) (.e (.c .non) (.nil))))) (.cons (.call 22 (.e (.c (.int 0)) (.e (.c (.str "1")) (.e (.c (.int 2)) (.nil))))) (.cons (.call 22 (.e (.c (.int 1)) (.e (.prim pTup (.cons (.c (.int 1)) (.cons (.c (.int 2)) (.nil)))) (.e (.prim pTup (.cons (.c (.int 0)) (.cons (.c (.int 1)) (.nil)))) (.nil))))) (.nil))))))) (.cons (.prim (pRepK 5) (.cons (.c (.str "<malformed>")) (.nil))) .nil))))) e = .ret (.v (.bl true)) e := by
  subst hT
  have c1 : runD DF 5 22 [.val (.int 0), .val (.int 1), .val (.int 0)] = .ok (.v mal) [.val (.int 0), .val (.int 1), .val (.int 0)] := ask_no 3 0 4 _ _ ask_r0 (by omega) (ratio_no 2 1)
  have c2 : runD DF 5 22 [.val (.int 0), .val (.bl true), .val (.int 1)] = .ok (.v mal) [.val (.int 0), .val (.bl true), .val (.int 1)] := ask_no 3 0 4 _ _ ask_r0 (by omega) rfl
  have c3 : runD DF 5 22 [.val (.int 0), .val (.int 1), .val .non] = .ok (.v mal) [.val (.int 0), .val (.int 1), .val .non] := ask_no 3 0 4 _ _ ask_r0 (by omega) rfl
  have c4 : runD DF 5 22 [.val (.int 0), .val (.str "1"), .val (.int 2)] = .ok (.v mal) [.val (.int 0), .val (.str "1"), .val (.int 2)] := ask_no 3 0 4 _ _ ask_r0 (by omega) rfl
  have c5 : runD DF 5 22 [.val (.int 1), .val (rD (1, 2)), .val (rD (0, 1))] = .ok (.v mal) [.val (.int 1), .val (rD (1, 2)), .val (rD (0, 1))] := ask_no 3 1 9 _ _ ask_r1 (by omega) (over_no 3 rfl)
  have hl : pLst [mal, mal, mal, mal, mal] = some (.lst [mal, mal, mal, mal, mal]) := rfl
  have hr : pRepK 5 [mal] = some (.lst [mal, mal, mal, mal, mal]) := rfl
  have he : pEq [.lst [mal, mal, mal, mal, mal], .lst [mal, mal, mal, mal, mal]] = some (.bl true) := by
    have hs : (D.lst [mal, mal, mal, mal, mal]).shp = true := by decide +kernel
    have hv : (D.lst [mal, mal, mal, mal, mal]).eqv (.lst [mal, mal, mal, mal, mal]) = true := by decide +kernel
    show (if ((D.lst [mal, mal, mal, mal, mal]).shp && (D.lst [mal, mal, mal, mal, mal]).shp) = true then some (D.bl ((D.lst [mal, mal, mal, mal, mal]).eqv (.lst [mal, mal, mal, mal, mal]))) else none) = _
    rw [hs, hv]
    rfl
  have hm : mal = .str "<malformed>" := rfl
  rw [← hm]
  simp [exS, evr, ev, evs, eva, evi, rdV, callF, mkArgs, mkArg, isS, noTwice, putBack, Out.bind, Out.so, Out.opt, SO.seq, SO.opt, SO.ifb, putT_n, putT_t, puts_nil, puts_cons, putN_pt, stR_v, stR_f, pt_un, pt_val, pt_f, tab_runE, RV.d, List.replicate, c1, c2, c3, c4, tupI, c5, hl, hr, he]
theorem law_true (ns : List Int) (hl : ns.length ≤ 63) : ∃ f, exS (tabD DF 5) ir_law [.val (.lst (ns.map D.int)), .un, .un, .un, .un, .un, .un, .un, .un, .un, .un, .un, .un, .un, .un] = .ret (.v (.bl true)) (.val (.lst (ns.map D.int)) :: f) := by
  obtain ⟨S, o, hd⟩ := draw_ok 4 ns (by omega)
  generalize D.lst (ns.map D.int) = s0 at hd ⊢
  refine ex_seq (e1 := [.val s0, .mt false (.lst S.d), .un, .un, .un, .un, .un, .un, .un, .un, .un, .un, .un, .un, .un]) (by simp [exS, evr, ev, evs, eva, evi, rdV, callF, mkArgs, mkArg, isS, noTwice, putBack, Out.bind, Out.so, Out.opt, SO.seq, SO.opt, SO.ifb, putT_n, putT_t, puts_nil, puts_cons, putN_pt, stR_v, stR_f, pt_un, pt_val, pt_f, tab_runE, RV.d, List.replicate, hd]) ?_
  refine ex_seq (e1 := [.val s0, .mt false (.lst S.d), .val (.lst (([] : List (Int × Int)).map rD)), .un, .un, .un, .un, .un, .un, .un, .un, .un, .un, .un, .un]) (by simp [exS, evr, ev, evs, eva, evi, rdV, callF, mkArgs, mkArg, isS, noTwice, putBack, Out.bind, Out.so, Out.opt, SO.seq, SO.opt, SO.ifb, putT_n, putT_t, puts_nil, puts_cons, putN_pt, stR_v, stR_f, pt_un, pt_val, pt_f, tab_runE, RV.d, List.replicate, pLst]) ?_
  obtain ⟨S1, fs1, t3, t4, t5, t6, o1, hf1, hl1, q1, g3⟩ := loop0 0 (.val s0) [.int 0, .int 1, .int 2, .int 3, .int 4, .int 5] S [] .un .un .un .un .un .un .un .un .un .un .un .un o (fun p hp => by cases hp) (by decide) fre_un fre_un fre_un fre_un
  refine ex_seq (for_it (e1 := [.val s0, .mt false (.lst S.d), .val (.lst (([] : List (Int × Int)).map rD)), .un, .un, .un, .un, .un, .un, .un, .un, .un, .un, .un, .un]) (items := [.int 0, .int 1, .int 2, .int 3, .int 4, .int 5]) rfl q1) ?_
  have hadd := addL (fs1.map rD) [rD (0, 1), rD (1, 1), rD (-1, 3)] (by simp at hl1 ⊢; omega)
  have hcs : fs1.map rD ++ [rD (0, 1), rD (1, 1), rD (-1, 3)] = (fs1 ++ [(0, 1), (1, 1), (-1, 3)]).map rD := by simp
  have hlc : pLst [rD (0, 1), rD (1, 1), rD (-1, 3)] = some (.lst [rD (0, 1), rD (1, 1), rD (-1, 3)]) := rfl
  have hsub : pSub [.int 0, .int 1] = some (.int (-1)) := rfl
  rw [hcs] at hadd
  refine ex_seq (e1 := [.val s0, .mt false (.lst S1.d), .val (.lst ((fs1 ++ [(0, 1), (1, 1), (-1, 3)]).map rD)), t3, t4, t5, t6, .un, .un, .un, .un, .un, .un, .un, .un]) (by simp only [exS, evr, ev, evs, eva, evi, rdV, callF, mkArgs, mkArg, isS, noTwice, putBack, Out.bind, Out.so, Out.opt, SO.seq, SO.opt, SO.ifb, putT_n, putT_t, puts_nil, puts_cons, putN_pt, stR_v, stR_f, pt_un, pt_val, pt_f, tab_runE, RV.d, List.replicate, List.getElem?_cons_succ, List.getElem?_cons_zero, Option.bind_some, tupI, hsub, hlc, hadd, List.set_cons_succ, List.set_cons_zero]) ?_
  have hf : ∀ p ∈ fs1 ++ [(0, 1), (1, 1), (-1, 3)], Rl 134 p := by
    intro p hp
    rcases List.mem_append.mp hp with z | z
    · exact hf1 p z
    · have sm : ∀ d : Int, d.natAbs ≤ 3 → Bd 134 d := fun d h => by
        have h2 : (2 : Nat) ^ 2 ≤ 2 ^ 134 := Nat.pow_le_pow_right (by omega) (by omega)
        unfold Bd
        omega
      simp only [List.mem_cons, List.not_mem_nil, or_false] at z
      rcases z with rfl | rfl | rfl
      · exact ⟨⟨sm _ (by decide), sm _ (by decide), by decide⟩, by decide⟩
      · exact ⟨⟨sm _ (by decide), sm _ (by decide), by decide⟩, by decide⟩
      · exact ⟨⟨sm _ (by decide), sm _ (by decide), by decide⟩, by decide⟩
  have hlen : (fs1 ++ [(0, 1), (1, 1), (-1, 3)]).length ≤ 9 := by simp at hl1 ⊢; omega
  have hpos : 0 < (fs1 ++ [((0 : Int), (1 : Int)), (1, 1), (-1, 3)]).length := by simp
  generalize fs1 ++ [((0 : Int), (1 : Int)), (1, 1), (-1, 3)] = fs at hf hlen hpos ⊢
  obtain ⟨S2, u3, u7, u8, u9, u10, o2, g7, g9, q2⟩ := loop1 0 (.val s0) fs hf hpos (by omega) [.int 0, .int 1, .int 2, .int 3, .int 4, .int 5, .int 6, .int 7] S1 t3 t4 t5 t6 .un .un .un .un .un .un .un .un o1 g3 fre_un fre_un fre_un fre_un
  refine ex_seq (for_it (items := [.int 0, .int 1, .int 2, .int 3, .int 4, .int 5, .int 6, .int 7]) rfl q2) ?_
  have p9 := g9.pt
  refine ex_seq (e1 := [.val s0, .mt false (.lst S2.d), .val (.lst (fs.map rD)), u3, t4, t5, t6, u7, u8, .val (rD one), u10, .un, .un, .un, .un]) (by simp [exS, evr, ev, evs, eva, evi, rdV, callF, mkArgs, mkArg, isS, noTwice, putBack, Out.bind, Out.so, Out.opt, SO.seq, SO.opt, SO.ifb, putT_n, putT_t, puts_nil, puts_cons, putN_pt, stR_v, stR_f, pt_un, pt_val, pt_f, tab_runE, RV.d, List.replicate, tupI, p9, one]) ?_
  obtain ⟨v7, g7', q3⟩ := sum_loop 0 (.val s0) (.mt false (.lst S2.d)) u3 t4 t5 t6 u8 u10 .un .un .un .un (.lst (fs.map rD)) fs one 1 u7 hf one_Rl (by omega) g7
  refine ex_seq (for_it (e1 := [.val s0, .mt false (.lst S2.d), .val (.lst (fs.map rD)), u3, t4, t5, t6, u7, u8, .val (rD one), u10, .un, .un, .un, .un]) (items := fs.map rD) (by simp [exS, evr, ev, evs, eva, evi, rdV, callF, mkArgs, mkArg, isS, noTwice, putBack, Out.bind, Out.so, Out.opt, SO.seq, SO.opt, SO.ifb, putT_n, putT_t, puts_nil, puts_cons, putN_pt, stR_v, stR_f, pt_un, pt_val, pt_f, tab_runE, RV.d, List.replicate, pItems]) q3) ?_
  have T1 := total_ok 1 (.lst (fs.map rD)) fs rfl hf (by omega)
  have T2 := total_ok 1 (.tup (fs.map rD)) fs rfl hf (by omega)
  have T3 := total_ok 1 (.lst []) [] rfl (fun p hp => by cases hp) (by decide)
  have htu : pTuple [.lst (fs.map rD)] = some (.tup (fs.map rD)) := rfl
  have hle : pLst [] = some (.lst []) := rfl
  have n3 : pNe [rD (([] : List (Int × Int)).foldl plusP one), rD (0, 1)] = some (.bl false) := n_same_r (0, 1)
  refine ex_seq (ife_no ?_) ?_
  · simp only [exS, evr, ev, evs, eva, evi, rdV, callF, mkArgs, mkArg, isS, noTwice, putBack, Out.bind, Out.so, Out.opt, SO.seq, SO.opt, SO.ifb, putT_n, putT_t, puts_nil, puts_cons, putN_pt, stR_v, stR_f, pt_un, pt_val, pt_f, tab_runE, RV.d, List.replicate, List.getElem?_cons_succ, List.getElem?_cons_zero, List.flatMap_cons, List.flatMap_nil, List.append_nil, Option.bind_some, Option.map_some, if_true, T1, T2, T3, htu, hle, n_same_r, tupI, n3]
  obtain ⟨w11, g11, q4⟩ := value_loop 0 (.val s0) (.mt false (.lst S2.d)) (.val (.lst (fs.map rD))) u3 t4 t5 t6 v7 u8 (.val (rD (fs.foldl plusP one))) u10 .un .un .un .un fre_un
  refine ex_seq q4 ?_
  have hw := whole_list 0 (.val s0) (.mt false (.lst S2.d)) (.val (.lst (fs.map rD))) u3 t4 t5 t6 v7 u8 (.val (rD (fs.foldl plusP one))) u10 w11 .un .un .un g11.nm
  refine ex_seq (ife_no ?_) ?_
  · have hn : pNe [.lst [.bl true, .bl true, .bl false, .bl false, .bl false, .bl false, .bl false], .lst [.bl true, .bl true, .bl false, .bl false, .bl false, .bl false, .bl false]] = some (.bl false) := rfl
    have key : ∀ (c d : IE) (e : Sls), ev (tabD DF 5) c e = .ok (.lst [.bl true, .bl true, .bl false, .bl false, .bl false, .bl false, .bl false]) e → ev (tabD DF 5) d e = .ok (.lst [.bl true, .bl true, .bl false, .bl false, .bl false, .bl false, .bl false]) e → ev (tabD DF 5) (.prim pNe (.cons c (.cons d .nil))) e = .ok (.bl false) e := fun c d e h1 h2 => by
      simp [exS, evr, ev, evs, eva, evi, rdV, callF, mkArgs, mkArg, isS, noTwice, putBack, Out.bind, Out.so, Out.opt, SO.seq, SO.opt, SO.ifb, putT_n, putT_t, puts_nil, puts_cons, putN_pt, stR_v, stR_f, pt_un, pt_val, pt_f, tab_runE, RV.d, List.replicate, h1, h2, hn]
    exact key _ _ _ hw rfl
  refine ex_seq (e1 := [.val s0, .mt false (.lst S2.d), .val (.lst (fs.map rD)), u3, t4, t5, t6, v7, u8, .val (rD (fs.foldl plusP one)), u10, w11, .val (.lst tx), .un, .un]) (by rfl) ?_
  obtain ⟨p, hp, hx⟩ := ixF fs 0 (by omega) (by omega)
  obtain ⟨S3, r, o3, a3, b3, ht⟩ := take_ok 4 S2 o2 4 (by decide) ((bd_small (by decide) (by decide)).mono (by omega))
  obtain ⟨l, hs, hll⟩ := sfx_at a3 b3
  obtain ⟨_, tx2⟩ := texts_ok 4 (hf p hp).toR
  have htl := txt_len (hf p hp).toR
  have hap := addS (txt p) l (by omega)
  have hsf : pLst sfx = some (.lst sfx) := rfl
  unfold sfx at hs hsf
  have hls : pLst [.str (mkS (txt p ++ l))] = some (.lst [.str (mkS (txt p ++ l))]) := rfl
  have hal := addL tx [.str (mkS (txt p ++ l))] (by simp [tx])
  obtain ⟨x13, x14, _, _, q5⟩ := text_loop 0 (.val s0) (.mt false (.lst S3.d)) (.val (.lst (fs.map rD))) u3 t4 t5 t6 v7 u8 (.val (rD (fs.foldl plusP one))) u10 w11 (.val (.lst tx)) (tx ++ [.str (mkS (txt p ++ l))]) (fun x hx => by
    rcases List.mem_append.mp hx with z | z
    · exact tx_ok x z
    · rw [List.mem_singleton.mp z]
      exact .inr (.inr ⟨_, rfl, by rw [List.length_append]; omega⟩)) .un .un fre_un fre_un
  refine ex_seq (for_it (e1 := [.val s0, .mt false (.lst S3.d), .val (.lst (fs.map rD)), u3, t4, t5, t6, v7, u8, .val (rD (fs.foldl plusP one)), u10, w11, .val (.lst tx), .un, .un]) (items := tx ++ [.str (mkS (txt p ++ l))]) ?_ q5) ?_
  · simp [exS, evr, ev, evs, eva, evi, rdV, callF, mkArgs, mkArg, isS, noTwice, putBack, Out.bind, Out.so, Out.opt, SO.seq, SO.opt, SO.ifb, putT_n, putT_t, puts_nil, puts_cons, putN_pt, stR_v, stR_f, pt_un, pt_val, pt_f, tab_runE, RV.d, List.replicate, hx, tx2, hsf, ht, hs, hap, hls, hal, pItems, bnd]
  · exact ⟨_, last_ok _ _ rfl⟩
theorem law_pure : ∀ ns : List Int, ns.length ≤ 63 → runD DF DEPTH 26 [.val (.lst (ns.map D.int))] = .ok (.v (.bl true)) [.val (.lst (ns.map D.int))] := fun ns hl => by
  obtain ⟨f, h⟩ := law_true ns hl
  exact ret_of (d := 5) (e := .val (.lst (ns.map D.int)) :: f) 1 15 ir_law rfl rfl rfl rfl h rfl
end Lw

set_option Elab.async false
set_option linter.all false
set_option maxRecDepth 100000
namespace Lw
open PySem PySem.Spec PyProof.Rows L2 Eng
theorem walk {l : PySem.W.OpenLaw} {q : Program} {loose : List Str} {XP : (Str → Option Value) → Heap → Prop} {YP : World → Heap → Prop} {d : DefRec} {K : Params → PySem.W.Frag} (hn : l.most = some 63) (hdf : d.params.defaults = [])
    (hY : ∀ (w : World) (h : Heap), YP w h → (K w.params).In h)
    (F : ∀ (w : World) (mg : Str → Option Value) (f : Addr) (h : Heap), (K w.params).In h → h.Ns mainGlobals mg → mg d.name = some (.ref f) →
      ∃ (fd : FuncData) (fa ca : Nat → Addr) (an : Nat → Str), (∀ (s : Shared) (u : Value), BindsTo s fd ⟨[u], []⟩ [("script", u)]) ∧
        ∀ base : Heap, (K w.params).In base → base.Ns mainGlobals mg → FnG l.prog w (K w.params) mg base DEPTH f fd ["script"] (spC (ctD DF (K w.params) fa ca an DEPTH) 26)) :
    PySem.W.WalkO q loose XP YP l.row.toRowW d [] (fun f vs => PySem.call f vs) :=
  walk_ofG (Df := DF) (j := 26) hn (by rw [sizeLine_eq]; decide) hdf ⟨rfl, by decide, by decide⟩ hY F law_pure
end Lw
open PySem PySem.W PyProof.Rows in
set_option maxRecDepth 100000 in
set_option maxHeartbeats 0 in
theorem PySem.Challenge.cw_oddsmith_k09_fractions_holds : PySem.Challenge.rw_oddsmith_k09_fractions.Holds := by
  w_on; o_law; k_head; (case hw => w_witness2)
  k_fill
  refine Lw.walk (l := PySem.Challenge.rw_oddsmith_k09_fractions) rfl rfl (fun w h Y => PySem.W.kIn_of Y) ?F
  case F =>
    intro w mg fa h KX G hmg
    refine' Lw.all_mk KX G hmg ?a0 ?l0 ?c0 ?k0 ?a1 ?l1 ?c1 ?k1 ?a2 ?l2 ?c2 ?k2 ?a3 ?l3 ?c3 ?k3 ?a4 ?l4 ?c4 ?k4 ?a5 ?l5 ?c5 ?k5 ?a6 ?l6 ?c6 ?k6 ?a7 ?l7 ?c7 ?k7 ?a8 ?l8 ?c8 ?k8 ?a9 ?l9 ?c9 ?k9 ?a10 ?l10 ?c10 ?k10 ?a11 ?l11 ?c11 ?k11 ?a12 ?l12 ?c12 ?k12 ?a13 ?l13 ?c13 ?k13 ?a14 ?l14 ?c14 ?k14 ?a15 ?l15 ?c15 ?k15 ?a16 ?l16 ?c16 ?k16 ?a17 ?l17 ?c17 ?k17 ?a18 ?l18 ?c18 ?k18 ?a19 ?l19 ?c19 ?k19 ?a20 ?l20 ?c20 ?k20 ?a21 ?l21 ?c21 ?k21 ?a22 ?l22 ?c22 ?k22 ?a23 ?l23 ?c23 ?k23 ?a24 ?l24 ?c24 ?k24 ?a25 ?l25 ?c25 ?k25 ?a26 ?l26 ?c26 ?k26 ?b_abs ?b_all ?b_bool ?b_int ?b_isinstance ?b_len ?b_range ?b_repr ?b_str ?b_tuple ?g_MOST_DIGITS ?g_DIGITS ?g_ZERO ?h_ZERO ?xg0 ?xk0 ?xs0 ?xi0 ?xt0 ?xc0 ?xg1 ?xk1 ?xs1 ?xi1 ?xt1 ?xl1 ?isa1 ?iga1 ?igg1 ?inf1 ?ihd1 ?ii1 ?it1 ?il1 ?ic1 ?id1 ?iv1 ?if1 ?ik1 ?io1 ?iq1 ?is1 ?ib1 ?im1 ?iz1 ?xx0_0 ?xx1_0 ?xx0_1 ?xx1_1
    (case a0 => k_is)
    (case l0 => k_is)
    (case c0 => k_is)
    (case k0 => k_is)
    (case a1 => k_is)
    (case l1 => k_is)
    (case c1 => k_is)
    (case k1 => k_is)
    (case a2 => k_is)
    (case l2 => k_is)
    (case c2 => k_is)
    (case k2 => k_is)
    (case a3 => k_is)
    (case l3 => k_is)
    (case c3 => k_is)
    (case k3 => k_is)
    (case a4 => k_is)
    (case l4 => k_is)
    (case c4 => k_is)
    (case k4 => k_is)
    (case a5 => k_is)
    (case l5 => k_is)
    (case c5 => k_is)
    (case k5 => k_is)
    (case a6 => k_is)
    (case l6 => k_is)
    (case c6 => k_is)
    (case k6 => k_is)
    (case a7 => k_is)
    (case l7 => k_is)
    (case c7 => k_is)
    (case k7 => k_is)
    (case a8 => k_is)
    (case l8 => k_is)
    (case c8 => k_is)
    (case k8 => k_is)
    (case a9 => k_is)
    (case l9 => k_is)
    (case c9 => k_is)
    (case k9 => k_is)
    (case a10 => k_is)
    (case l10 => k_is)
    (case c10 => k_is)
    (case k10 => k_is)
    (case a11 => k_is)
    (case l11 => k_is)
    (case c11 => k_is)
    (case k11 => k_is)
    (case a12 => k_is)
    (case l12 => k_is)
    (case c12 => k_is)
    (case k12 => k_is)
    (case a13 => k_is)
    (case l13 => k_is)
    (case c13 => k_is)
    (case k13 => k_is)
    (case a14 => k_is)
    (case l14 => k_is)
    (case c14 => k_is)
    (case k14 => k_is)
    (case a15 => k_is)
    (case l15 => k_is)
    (case c15 => k_is)
    (case k15 => k_is)
    (case a16 => k_is)
    (case l16 => k_is)
    (case c16 => k_is)
    (case k16 => k_is)
    (case a17 => k_is)
    (case l17 => k_is)
    (case c17 => k_is)
    (case k17 => k_is)
    (case a18 => k_is)
    (case l18 => k_is)
    (case c18 => k_is)
    (case k18 => k_is)
    (case a19 => k_is)
    (case l19 => k_is)
    (case c19 => k_is)
    (case k19 => k_is)
    (case a20 => k_is)
    (case l20 => k_is)
    (case c20 => k_is)
    (case k20 => k_is)
    (case a21 => k_is)
    (case l21 => k_is)
    (case c21 => k_is)
    (case k21 => k_is)
    (case a22 => k_is)
    (case l22 => k_is)
    (case c22 => k_is)
    (case k22 => k_is)
    (case a23 => k_is)
    (case l23 => k_is)
    (case c23 => k_is)
    (case k23 => k_is)
    (case a24 => k_is)
    (case l24 => k_is)
    (case c24 => k_is)
    (case k24 => k_is)
    (case a25 => k_is)
    (case l25 => k_is)
    (case c25 => k_is)
    (case k25 => k_is)
    (case a26 => k_is)
    (case l26 => k_is)
    (case c26 => k_is)
    (case k26 => k_is)
    (case b_abs => k_is)
    (case b_all => k_is)
    (case b_bool => k_is)
    (case b_int => k_is)
    (case b_isinstance => k_is)
    (case b_len => k_is)
    (case b_range => k_is)
    (case b_repr => k_is)
    (case b_str => k_is)
    (case b_tuple => k_is)
    (case g_MOST_DIGITS => k_is)
    (case g_DIGITS => k_is)
    (case g_ZERO => k_is)
    (case h_ZERO => k_is)
    (case xg0 => k_is)
    (case xk0 => k_is)
    (case xs0 => k_is)
    (case xi0 => k_is)
    (case xt0 => k_is)
    (case xc0 => k_exc)
    (case xg1 => k_is)
    (case xk1 => k_is)
    (case xs1 => k_is)
    (case xi1 => k_is)
    (case xt1 => k_is)
    (case xl1 => k_is)
    (case isa1 => k_is)
    (case iga1 => k_is)
    (case igg1 => k_is)
    (case inf1 => k_is)
    (case ihd1 => k_is)
    (case ii1 => k_is)
    (case it1 => k_is)
    (case il1 => k_is)
    (case ic1 => k_is)
    (case id1 => k_is)
    (case iv1 => first | rfl | k_is | ks_is)
    (case if1 => first | rfl | k_is | ks_is)
    (case ik1 => k_is)
    (case io1 => first | rfl | k_is | ks_is)
    (case iq1 => k_is)
    (case is1 => first | rfl | k_is | ks_is)
    (case ib1 => k_is)
    (case im1 => k_is)
    (case iz1 => k_is)
    (case xx0_0 => first | rfl | k_is)
    (case xx1_0 => first | rfl | k_is)
    (case xx0_1 => first | rfl | k_is)
    (case xx1_1 => first | rfl | k_is)


