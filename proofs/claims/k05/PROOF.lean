import PyProof.Rows.All
import HandS.ForMost
import HandS.Exc
import HandS.ExcOwn
import HandS.ExcField
import KE.KeyNested
import HandS.TupAny
import HandS.Text
import HandS.Iter
import HandS.Zip
import HandS.Rev
import HandS.Comp
import HandS.WordsExc
import KE.KExcSuper
import HandS.ExcInit
import HandS.Words
import HandS.Deep
import HandS.TupLe
import HandS.TupMul
import HandS.IsInst
import HandS.WideBits
import HandS.Style
import HandS.EndBits
import OpenK.AllK
import Wide.All
import Wide.FinOn
import HandS.TupSets
import PyProof.ReprRoads
import PyProof.CallFns
import PyProof.ListMulRoad
import PyProof.FactsAll.tuple_2
import PyProof.P3Eq
import PyProof.NeData
import HandS.Conv
import KE.SortKeyHeap
import HandS.SortKw
import HandS.Star
import KE.GoesMore
import PyProof.ReprLen
import PyProof.FitsInt
import PySem.Challenge.RW_lampthrong_k05_whole_highs_outside
set_option Elab.async false
set_option linter.all false
set_option maxRecDepth 100000
namespace LV
open PySem PySem.Spec L2

/-! ### data -/
inductive D where
  | non | bl (b : Bool) | int (i : Int) | str (s : Str)
  | tup (xs : List D) | lst (xs : List D)
  | dct (ks vs : List D)
  | ins (C : Str) (ks : List Str) (vs : List D)
  /-- the law's script: a locked list of ints -/
  | scr (ns : List Int)
  deriving Inhabited

/-- an owned object's content -/
inductive O where
  | lst (xs : List D)
  | dct (ks vs : List D)
  | ins (C : Str) (ks : List Str) (vs : List D)
def O.d : O → D
  | .lst xs => .lst xs
  | .dct ks vs => .dct ks vs
  | .ins C ks vs => .ins C ks vs

/-- what a slot holds -/
inductive Val where
  | fz (d : D)
  | ow (o : O)
  | ex (a : Addr) (C : Str) (ks : List Str) (vs : List D)
abbrev En := List (Option Val)

/-- an expression's value: data, a new owned object, or the object that slot i owns -/
inductive Rv where
  | fz (d : D)
  | ow (o : O)
  | sl (i : Nat)

/-- an exception in the air: its class, its fields -/
structure Xn where
  C : Str
  ks : List Str
  vs : List D

structure Md where
  K : PySem.W.Frag
  mg : Str → Option Value
  w : World

def kD : Key → D
  | .inl i => .int i
  | .inr x => .str x

/-! ### dicts with keys of any form (texts, whole numbers, None in tuples) -/
mutual
def nkD : NestedKey → D
  | .none => .non
  | .num i => .int i
  | .text x => .str x
  | .tup ks => .tup (nkDs ks)
def nkDs : List NestedKey → List D
  | [] => []
  | k :: ks => nkD k :: nkDs ks
end
mutual
theorem nkD_inj : ∀ a b : NestedKey, nkD a = nkD b → a = b
  | .none, b, h => by cases b <;> first | rfl | (simp [nkD] at h)
  | .num i, b, h => by cases b <;> first | (simp [nkD] at h; rw [h]) | (simp [nkD] at h)
  | .text x, b, h => by cases b <;> first | (simp [nkD] at h; rw [h]) | (simp [nkD] at h)
  | .tup ks, b, h => by
    cases b with
    | tup js => rw [nkD, nkD] at h; injection h with h; rw [nkDs_inj ks js h]
    | _ => simp [nkD] at h
theorem nkDs_inj : ∀ a b : List NestedKey, nkDs a = nkDs b → a = b
  | [], [], _ => rfl
  | [], _ :: _, h => by simp [nkDs] at h
  | _ :: _, [], h => by simp [nkDs] at h
  | x :: a, y :: b, h => by
    rw [nkDs, nkDs] at h
    injection h with h1 h2
    rw [nkD_inj x y h1, nkDs_inj a b h2]
end
def NDO (w : World) (a : Addr) (xs : List (NestedKey × Addr × Value)) : HO := .ext fun h => (a == sysModules) = false ∧ xs.length ≤ sizeLine ∧ (xs.map (·.1)).Nodup ∧ ∃ o es ep, h.get? a = some o ∧ o.ExactDict ∧ o.data = .dict es ep ∧ es.toList = xs.map fun x => ⟨x.1.hash w, .ref x.2.1, x.2.2⟩
mutual
inductive Rep (M : Md) (F : Hp) : V → D → Prop
  | non : Rep M F .non .non
  | bl (b) : Rep M F (.bl b) (.bl b)
  | int (i) : Rep M F (.int i) (.int i)
  | str (s) : Rep M F (.str s) (.str s)
  | tup {a xs ds} : SqT M.K F a xs → RepL M F xs ds → Rep M F (.ref a) (.tup ds)
  | lst {a xs ds} : F a = some (.lst xs) → RepL M F xs ds → Rep M F (.ref a) (.lst ds)
  | scr {a ns} : SqL M.K F a (ns.map V.int) → Rep M F (.ref a) (.scr ns)
  | dK {a} {kv : List (Key × V)} {vs ds} : F a = some (.dK kv) → kv.map (·.2) = vs → RepL M F vs ds → Rep M F (.ref a) (.dct (kv.map fun p => kD p.1) ds)
  | dN {a xs vs ks ds} : F a = some (NDO M.w a xs) → ks = xs.map (fun x => nkD x.1) → (∀ x ∈ xs, x.1.depth ≤ 8) → RepL M F (xs.map fun x => V.ref x.2.1) ks → Vals vs (xs.map fun x => x.2.2) → RepL M F vs ds → Rep M F (.ref a) (.dct ks ds)
  | ins {a C c dx} {fv : List (Str × V)} {vs ds} : M.mg C = some (.ref c) → F a = some (.ins c dx fv) → fv.map (·.2) = vs → RepL M F vs ds → Rep M F (.ref a) (.ins C (fv.map (·.1)) ds)
inductive RepL (M : Md) (F : Hp) : List V → List D → Prop
  | nil : RepL M F [] []
  | cons {v vs d ds} : Rep M F v d → RepL M F vs ds → RepL M F (v :: vs) (d :: ds)
end

section
variable {M : Md} {F F' : Hp}
theorem Same.sqT (s : Same F F') {K : PySem.W.Frag} {a : Addr} {xs : List V} (h : SqT K F a xs) : SqT K F' a xs := by
  rcases h with (h | ⟨o, h⟩) | h
  · exact .inl (.inl (s _ _ h))
  · exact .inl (.inr ⟨o, s _ _ h⟩)
  · exact .inr h
mutual
theorem Rep.same (s : Same F F') : ∀ {v : V} {d : D}, Rep M F v d → Rep M F' v d
  | _, _, .non => .non
  | _, _, .bl b => .bl b
  | _, _, .int i => .int i
  | _, _, .str x => .str x
  | _, _, .tup h r => .tup (Same.sqT s h) (RepL.same s r)
  | _, _, .lst h r => .lst (s _ _ h) (RepL.same s r)
  | _, _, .scr h => .scr (s.seq h)
  | _, _, .dK h e r => .dK (s _ _ h) e (RepL.same s r)
  | _, _, .dN h e1 e2 r1 e3 r2 => .dN (s _ _ h) e1 e2 (RepL.same s r1) e3 (RepL.same s r2)
  | _, _, .ins g h e r => .ins g (s _ _ h) e (RepL.same s r)
theorem RepL.same (s : Same F F') : ∀ {vs : List V} {ds : List D}, RepL M F vs ds → RepL M F' vs ds
  | _, _, .nil => .nil
  | _, _, .cons h r => .cons (Rep.same s h) (RepL.same s r)
end
theorem RepL.length : ∀ {vs : List V} {ds : List D}, RepL M F vs ds → vs.length = ds.length
  | _, _, .nil => rfl
  | _, _, .cons _ r => by rw [List.length_cons, List.length_cons, r.length]
theorem RepL.append : ∀ {vs us : List V} {ds es : List D}, RepL M F vs ds → RepL M F us es → RepL M F (vs ++ us) (ds ++ es)
  | _, _, _, _, .nil, s => s
  | _, _, _, _, .cons h r, s => .cons h (RepL.append r s)
theorem RepL.get : ∀ {vs : List V} {ds : List D} {i : Nat} {v : V}, RepL M F vs ds → vs[i]? = some v → ∃ d, ds[i]? = some d ∧ Rep M F v d
  | _, _, _, _, .nil, e => by simp at e
  | _, _, 0, _, .cons h _, e => by simp at e; subst e; exact ⟨_, rfl, h⟩
  | _, _, i + 1, v, .cons _ r, e => by
    obtain ⟨d, h1, h2⟩ := RepL.get (i := i) (v := v) r (by simpa using e)
    exact ⟨d, by simpa using h1, h2⟩
theorem RepL.get' : ∀ {vs : List V} {ds : List D} {i : Nat} {d : D}, RepL M F vs ds → ds[i]? = some d → ∃ v, vs[i]? = some v ∧ Rep M F v d
  | _, _, _, _, .nil, e => by simp at e
  | _, _, 0, _, .cons h _, e => by simp at e; subst e; exact ⟨_, rfl, h⟩
  | _, _, i + 1, d, .cons _ r, e => by
    obtain ⟨v, h1, h2⟩ := RepL.get' (i := i) (d := d) r (by simpa using e)
    exact ⟨v, by simpa using h1, h2⟩
theorem RepL.take : ∀ {vs : List V} {ds : List D} (n : Nat), RepL M F vs ds → RepL M F (vs.take n) (ds.take n)
  | _, _, 0, _ => .nil
  | _, _, _ + 1, .nil => .nil
  | _, _, n + 1, .cons h r => .cons h (RepL.take n r)
theorem RepL.drop : ∀ {vs : List V} {ds : List D} (n : Nat), RepL M F vs ds → RepL M F (vs.drop n) (ds.drop n)
  | _, _, 0, r => r
  | _, _, _ + 1, .nil => .nil
  | _, _, n + 1, .cons _ r => RepL.drop n r
theorem RepL.reverse : ∀ {vs : List V} {ds : List D}, RepL M F vs ds → RepL M F vs.reverse ds.reverse
  | _, _, .nil => .nil
  | _, _, .cons h r => by
    rw [List.reverse_cons, List.reverse_cons]
    exact (RepL.reverse r).append (.cons h .nil)
theorem RepL.set {v : V} {d : D} (h : Rep M F v d) : ∀ {vs : List V} {ds : List D} (i : Nat), RepL M F vs ds → RepL M F (vs.set i v) (ds.set i d)
  | _, _, _, .nil => .nil
  | _, _, 0, .cons _ t => .cons h t
  | _, _, i + 1, .cons q t => .cons q (RepL.set h i t)
theorem RepL.ints : ∀ {vs : List V} {ns : List Int}, RepL M F vs (ns.map D.int) → vs = ns.map V.int
  | _, [], .nil => rfl
  | _, n :: ns, .cons h r => by
    cases h
    rw [RepL.ints (ns := ns) r]; rfl
theorem RepL.of_ints : ∀ (ns : List Int), RepL M F (ns.map V.int) (ns.map D.int)
  | [] => .nil
  | n :: ns => .cons (.int n) (RepL.of_ints ns)
end

/-- the heap object of an owned content at p -/
def ORep (M : Md) (F H : Hp) (p : Addr) : O → Prop
  | .lst ds => ∃ xs, H p = some (.lst xs) ∧ RepL M F xs ds
  | .dct ks ds => (∃ kv : List (Key × V), H p = some (.dK kv) ∧ kv.map (fun p => kD p.1) = ks ∧ RepL M F (kv.map (·.2)) ds) ∨
      (∃ xs vs, H p = some (NDO M.w p xs) ∧ ks = xs.map (fun x => nkD x.1) ∧ (∀ x ∈ xs, x.1.depth ≤ 8) ∧ RepL M F (xs.map fun x => V.ref x.2.1) ks ∧ Vals vs (xs.map fun x => x.2.2) ∧ RepL M F vs ds)
  | .ins C ks ds => ∃ c dx fv, M.mg C = some (.ref c) ∧ H p = some (.ins c dx fv) ∧ fv.map (·.1) = ks ∧ RepL M F (fv.map (·.2)) ds

theorem same_upd {F : Hp} {p : Addr} {o : HO} (h : F p = none) : Same F (upd F p o) := fun b x e => by
  rw [upd_ne (ne_of_none e h)]; exact e
theorem same_updR {F H : Hp} {p : Addr} {o : HO} (s : Same F H) (h : H p = some o) : Same (upd F p o) H := fun b x e => by
  by_cases hb : b = p
  · subst hb; rw [upd_same] at e; cases e; exact h
  · rw [upd_ne hb] at e; exact s _ _ e
theorem ORep.same {M : Md} {F F' H H' : Hp} {p : Addr} {o : O} (s : Same F F') (e : H' p = H p) (h : ORep M F H p o) : ORep M F' H' p o := by
  cases o with
  | lst ds => obtain ⟨xs, h1, h2⟩ := h; exact ⟨xs, e.trans h1, h2.same s⟩
  | dct ks ds =>
    rcases h with ⟨kv, h1, h2, h3⟩ | ⟨xs, vs, h1, h2, h3, h4, h5, h6⟩
    · exact .inl ⟨kv, e.trans h1, h2, h3.same s⟩
    · exact .inr ⟨xs, vs, e.trans h1, h2, h3, h4.same s, h5, h6.same s⟩
  | ins C ks ds => obtain ⟨c, dx, fv, g, h1, h2, h3⟩ := h; exact ⟨c, dx, fv, g, e.trans h1, h2, h3.same s⟩
theorem ORep.there {M : Md} {F H : Hp} {p : Addr} {o : O} (h : ORep M F H p o) : ∃ u, H p = some u := by
  cases o with
  | lst ds => obtain ⟨xs, h1, _⟩ := h; exact ⟨_, h1⟩
  | dct ks ds =>
    rcases h with ⟨kv, h1, _⟩ | ⟨xs, vs, h1, _⟩
    · exact ⟨_, h1⟩
    · exact ⟨_, h1⟩
  | ins C ks ds => obtain ⟨c, dx, fv, g, h1, _⟩ := h; exact ⟨_, h1⟩
/-- an owned object is frozen -/
theorem ORep.freeze {M : Md} {F H : Hp} {p : Addr} {o : O} (h : ORep M F H p o) (hp : F p = none) : ∃ u, H p = some u ∧ Rep M (upd F p u) (.ref p) o.d := by
  have s : ∀ u, Same F (upd F p u) := fun u => same_upd hp
  cases o with
  | lst ds => obtain ⟨xs, h1, h2⟩ := h; exact ⟨_, h1, .lst upd_same (h2.same (s _))⟩
  | dct ks ds =>
    rcases h with ⟨kv, h1, h2, h3⟩ | ⟨xs, vs, h1, h2, h3, h4, h5, h6⟩
    · subst h2; exact ⟨_, h1, .dK upd_same rfl (h3.same (s _))⟩
    · exact ⟨_, h1, .dN upd_same h2 h3 (h4.same (s _)) h5 (h6.same (s _))⟩
  | ins C ks ds => obtain ⟨c, dx, fv, g, h1, h2, h3⟩ := h; subst h2; exact ⟨_, h1, .ins g upd_same rfl (h3.same (s _))⟩

/-! ### environments over slots -/
/-- the addresses that the slots own -/
def Own (σ : St) (env : En) (p : Addr) : Prop := ∃ (i : Nat) (o : O), env[i]? = some (some (Val.ow o)) ∧ σ[i]? = some (some (V.ref p))

/-- what a def's proof fixes: the slots that are not stored (its owned parameters), their values, the tracked heap at its start -/
structure Ct where
  pn : List Nat
  σ₀ : St
  h₀ : Hp
  xc : Addr → Value → Option Addr → Prop
def ct0 : Ct := ⟨[], [], fun _ => none, fun _ _ _ => False⟩
def XOk (M : Md) (F : Hp) (x : Xn) (c : Value) (d : Option Addr) : Prop :=
  ∃ C, M.mg x.C = some (.ref C) ∧ c = .ref C ∧ ((d = none ∧ x.ks = [] ∧ x.vs = []) ∨ ∃ (dd : Addr) (fv : List (Str × V)), d = some dd ∧ F dd = some (.xd fv) ∧ fv.map (·.1) = x.ks ∧ RepL M F (fv.map (·.2)) x.vs)
theorem XOk.same {M : Md} {F F' : Hp} {x : Xn} {cl : Value} {d : Option Addr} (h : XOk M F x cl d) (s : Same F F') : XOk M F' x cl d := by
  obtain ⟨C, h1, h2, h3⟩ := h
  refine ⟨C, h1, h2, ?_⟩
  rcases h3 with h3 | ⟨dd, fv, h3, h4, h5, h6⟩
  · exact .inl h3
  · exact .inr ⟨dd, fv, h3, s _ _ h4, h5, h6.same s⟩
structure Rel (M : Md) (c : Ct) (F H : Hp) (σ : St) (env : En) : Prop where
  sub : Same F H
  len : env.length = σ.length
  fz : ∀ (i : Nat) (d : D), env[i]? = some (some (.fz d)) → ∃ v, σ[i]? = some (some v) ∧ Rep M F v d
  ow : ∀ (i : Nat) (o : O), env[i]? = some (some (.ow o)) → ∃ p, σ[i]? = some (some (.ref p)) ∧ F p = none ∧ ORep M F H p o
  ex : ∀ (i : Nat) (a : Addr) (C : Str) (ks : List Str) (vs : List D), env[i]? = some (some (.ex a C ks vs)) → σ[i]? = some (some (.ref a)) ∧ ∃ cl d, c.xc a cl d ∧ XOk M F ⟨C, ks, vs⟩ cl d
  sep : ∀ (i j : Nat) (o u : O) (p : Addr), env[i]? = some (some (.ow o)) → env[j]? = some (some (.ow u)) → σ[i]? = some (some (.ref p)) → σ[j]? = some (some (.ref p)) → i = j
  pin : ∀ i : Nat, i ∈ c.pn → σ[i]? = c.σ₀[i]?
  old : ∀ b u, c.h₀ b = some u → ∃ u', H b = some u'
  fr : ∀ (i : Nat) (o : O) (p : Addr), env[i]? = some (some (.ow o)) → i ∉ c.pn → σ[i]? = some (some (.ref p)) → c.h₀ p = none

/-- from (F, H) to (F', H'): only what A holds has changed or was frozen; A' is A or new -/
structure Evo (A A' : Addr → Prop) (F H F' H' : Hp) : Prop where
  fs : Same F F'
  fn : ∀ b o, F' b = some o → F b = some o ∨ H b = none ∨ A b
  hk : ∀ b o, H b = some o → ¬ A b → H' b = some o
  ht : ∀ b o, H b = some o → ∃ u, H' b = some u
  aa : ∀ b, A' b → A b ∨ H b = none
theorem Evo.refl {A : Addr → Prop} {F H : Hp} : Evo A A F H F H := ⟨Same.refl _, fun _ _ h => .inl h, fun _ _ h _ => h, fun _ o h => ⟨o, h⟩, fun _ h => .inl h⟩
theorem Evo.sub {A A' : Addr → Prop} {F H : Hp} (h : ∀ b, A' b → A b) : Evo A A' F H F H := ⟨Same.refl _, fun _ _ h => .inl h, fun _ _ h _ => h, fun _ o h => ⟨o, h⟩, fun b q => .inl (h b q)⟩
theorem Evo.trans {A A' A'' : Addr → Prop} {F H F' H' F'' H'' : Hp} (a : Evo A A' F H F' H') (b : Evo A' A'' F' H' F'' H'') : Evo A A'' F H F'' H'' := by
  have key : ∀ c, H' c = none → H c = none := fun c e => by
    cases q : H c with
    | none => rfl
    | some o => obtain ⟨u, hu⟩ := a.ht c o q; rw [hu] at e; cases e
  refine ⟨a.fs.trans b.fs, fun c o h => ?_, fun c o h n => ?_, fun c o h => ?_, fun c h => ?_⟩
  · rcases b.fn c o h with h | h | h
    · exact a.fn c o h
    · exact .inr (.inl (key c h))
    · rcases a.aa c h with h | h
      · exact .inr (.inr h)
      · exact .inr (.inl h)
  · refine b.hk c o (a.hk c o h n) fun z => ?_
    rcases a.aa c z with z | z
    · exact n z
    · rw [h] at z; cases z
  · obtain ⟨u, hu⟩ := a.ht c o h
    exact b.ht c u hu
  · rcases b.aa c h with h | h
    · exact a.aa c h
    · exact .inr (key c h)
theorem Evo.noneOf {A A' : Addr → Prop} {F H F' H' : Hp} (a : Evo A A' F H F' H') {c : Addr} (e : H' c = none) : H c = none := by
  cases q : H c with
  | none => rfl
  | some o => obtain ⟨u, hu⟩ := a.ht c o q; rw [hu] at e; cases e
/-- what is tracked, owned by none and not frozen stays so -/
theorem Evo.keepTemp {A A' : Addr → Prop} {F H F' H' : Hp} (a : Evo A A' F H F' H') {p : Addr} {u : HO} (h : H p = some u) (hf : F p = none) (hA : ¬ A p) : H' p = some u ∧ F' p = none ∧ ¬ A' p := by
  refine ⟨a.hk p u h hA, ?_, fun z => ?_⟩
  · cases q : F' p with
    | none => rfl
    | some o =>
      rcases a.fn p o q with z | z | z
      · rw [hf] at z; cases z
      · rw [h] at z; cases z
      · exact absurd z hA
  · rcases a.aa p z with z | z
    · exact hA z
    · rw [h] at z; cases z
/-- no owner at all touched -/
abbrev Nob : Addr → Prop := fun _ => False
theorem Evo.nob {A : Addr → Prop} {F H F' H' : Hp} (a : Evo Nob Nob F H F' H') : Evo A A F H F' H' :=
  ⟨a.fs, fun b o h => by rcases a.fn b o h with h | h | h; exact .inl h; exact .inr (.inl h); exact h.elim, fun b o h _ => a.hk b o h (fun z => z), a.ht, fun _ h => .inl h⟩
/-- a new frozen object -/
theorem Evo.newF {F H : Hp} {p : Addr} {o : HO} (hp : H p = .none) (hF : F p = .none) : Evo Nob Nob F H (upd F p o) (upd H p o) := by
  refine ⟨same_upd hF, fun b u h => ?_, fun b u h _ => ?_, fun b u h => ?_, fun _ h => h.elim⟩
  · by_cases hb : b = p
    · subst hb; exact .inr (.inl hp)
    · rw [upd_ne hb] at h; exact .inl h
  · rw [upd_ne (ne_of_none h hp)]; exact h
  · exact ⟨u, by rw [upd_ne (ne_of_none h hp)]; exact h⟩
/-- a new owned object -/
theorem Evo.newO {F H : Hp} {p : Addr} {o : HO} (hp : H p = .none) : Evo Nob Nob F H F (upd H p o) := by
  refine ⟨Same.refl _, fun b u h => .inl h, fun b u h _ => ?_, fun b u h => ?_, fun _ h => h.elim⟩
  · rw [upd_ne (ne_of_none h hp)]; exact h
  · exact ⟨u, by rw [upd_ne (ne_of_none h hp)]; exact h⟩
theorem same_newO {F H : Hp} {p : Addr} {o : HO} (s : Same F H) (hp : H p = none) : Same F (upd H p o) := fun b u h => by
  have := s _ _ h
  rw [upd_ne (ne_of_none this hp)]; exact this
theorem same_newF {F H : Hp} {p : Addr} {o : HO} (s : Same F H) (hp : H p = none) : Same (upd F p o) (upd H p o) := fun b u h => by
  by_cases hb : b = p
  · subst hb; rw [upd_same] at h ⊢; exact h
  · rw [upd_ne hb] at h ⊢; exact s _ _ h

section
variable {M : Md} {c : Ct} {F H F' H' : Hp} {σ : St} {env env' : En}
theorem Rel.new (R : Rel M c F H σ env) {p : Addr} (h : H p = none) : c.h₀ p = none := by
  cases q : c.h₀ p with
  | none => rfl
  | some u => obtain ⟨u', hu⟩ := R.old p u q; rw [h] at hu; cases hu
theorem Rel.own_none (R : Rel M c F H σ env) {p : Addr} (h : Own σ env p) : F p = none := by
  obtain ⟨i, o, h1, h2⟩ := h
  obtain ⟨q, h3, h4, _⟩ := R.ow i o h1
  rw [h2] at h3; cases h3; exact h4
theorem Rel.own_some (R : Rel M c F H σ env) {p : Addr} (h : Own σ env p) : ∃ u, H p = some u := by
  obtain ⟨i, o, h1, h2⟩ := h
  obtain ⟨q, h3, _, h4⟩ := R.ow i o h1
  rw [h2] at h3; cases h3; exact h4.there
/-- a step that touches no owner -/
theorem Rel.evo (R : Rel M c F H σ env) (e : Evo Nob Nob F H F' H') (s : Same F' H') : Rel M c F' H' σ env := by
  refine ⟨s, R.len, fun i d h => ?_, fun i o h => ?_, fun i a C ks vs h => (R.ex i a C ks vs h).imp id fun ⟨cl, d, h2, h3⟩ => ⟨cl, d, h2, h3.same e.fs⟩, R.sep, R.pin, fun b u h => ?_, R.fr⟩
  · obtain ⟨v, h1, h2⟩ := R.fz i d h
    exact ⟨v, h1, h2.same e.fs⟩
  · obtain ⟨p, h1, h2, h3⟩ := R.ow i o h
    obtain ⟨u, hu⟩ := h3.there
    obtain ⟨q1, q2, _⟩ := e.keepTemp hu h2 (fun z => z)
    exact ⟨p, h1, q2, h3.same e.fs (q1.trans hu.symm)⟩
  · obtain ⟨u', hu⟩ := R.old b u h
    exact e.ht b u' hu
/-- slot i's object is frozen -/
theorem Rel.freeze (R : Rel M c F H σ env) {i : Nat} {o : O} (h : env[i]? = some (some (.ow o))) : ∃ p F', σ[i]? = some (some (.ref p)) ∧ Rel M c F' H σ (env.set i (some (.fz o.d))) ∧ Rep M F' (.ref p) o.d ∧
    Evo (Own σ env) (Own σ (env.set i (some (.fz o.d)))) F H F' H ∧ (∀ b, F' b = none → F b = none) ∧ (∀ b, b ≠ p → F' b = F b) := by
  obtain ⟨p, h1, h2, h3⟩ := R.ow i o h
  obtain ⟨u, h4, h5⟩ := h3.freeze h2
  have hi : i < env.length := (List.getElem?_eq_some_iff.mp h).1
  have hs : Same F (upd F p u) := same_upd h2
  refine ⟨p, upd F p u, h1, ⟨same_updR R.sub h4, by rw [List.length_set]; exact R.len, fun j d hj => ?_, fun j v hj => ?_, fun j a C ks vs hj => ?_, fun j k v w q hj hk => ?_, R.pin, R.old, fun j v q hj hn hq => ?_⟩, h5, ⟨hs, fun b v hb => ?_, fun b v hb _ => hb, fun b v hb => ⟨v, hb⟩, fun b hb => .inl ?_⟩, fun b hb => ?_, fun b hb => upd_ne hb⟩
  · by_cases e : i = j
    · subst e
      rw [List.getElem?_set_self hi] at hj
      cases hj
      exact ⟨_, h1, h5⟩
    · rw [List.getElem?_set_ne e] at hj
      obtain ⟨w, h6, h7⟩ := R.fz j d hj
      exact ⟨w, h6, h7.same hs⟩
  · by_cases e : i = j
    · subst e
      rw [List.getElem?_set_self hi] at hj
      cases hj
    · rw [List.getElem?_set_ne e] at hj
      obtain ⟨q, h6, h7, h8⟩ := R.ow j v hj
      have hq : q ≠ p := fun z => e (R.sep i j _ _ p h hj h1 (z ▸ h6))
      exact ⟨q, h6, by rw [upd_ne hq]; exact h7, h8.same hs rfl⟩
  · by_cases e : i = j
    · subst e
      rw [List.getElem?_set_self hi] at hj
      cases hj
    · rw [List.getElem?_set_ne e] at hj
      exact (R.ex j a C ks vs hj).imp id fun ⟨cl, d, h2, h3⟩ => ⟨cl, d, h2, h3.same hs⟩
  · by_cases e : i = j
    · subst e
      rw [List.getElem?_set_self hi] at hj
      cases hj
    · by_cases e2 : i = k
      · subst e2
        rw [List.getElem?_set_self hi] at hk
        cases hk
      · rw [List.getElem?_set_ne e] at hj
        rw [List.getElem?_set_ne e2] at hk
        exact R.sep j k v w q hj hk
  · by_cases e : i = j
    · subst e
      rw [List.getElem?_set_self hi] at hj
      cases hj
    · rw [List.getElem?_set_ne e] at hj
      exact R.fr j v q hj hn hq
  · by_cases e : b = p
    · subst e; exact .inr (.inr ⟨i, o, h, h1⟩)
    · rw [upd_ne e] at hb; exact .inl hb
  · obtain ⟨j, v, h6, h7⟩ := hb
    by_cases e : i = j
    · subst e
      rw [List.getElem?_set_self hi] at h6
      cases h6
    · rw [List.getElem?_set_ne e] at h6
      exact ⟨j, v, h6, h7⟩
  · cases q : F b with
    | none => rfl
    | some v => rw [hs _ _ q] at hb; cases hb
/-- a new value for slot i, in both -/
theorem Rel.setFz (R : Rel M c F H σ env) {i : Nat} {v : V} {d : D} (hi : i ∉ c.pn) (hl : i < σ.length) (r : Rep M F v d) : Rel M c F H (σ.set i (some v)) (env.set i (some (.fz d))) := by
  have hl' : i < env.length := by rw [R.len]; exact hl
  refine ⟨R.sub, by rw [List.length_set, List.length_set]; exact R.len, fun j e hj => ?_, fun j o hj => ?_, fun j a C ks vs hj => ?_, fun j k o u p hj hk => ?_, fun j hj => ?_, R.old, fun j o p hj hn hp => ?_⟩
  · by_cases e : i = j
    · subst e
      rw [List.getElem?_set_self hl'] at hj
      cases hj
      exact ⟨v, List.getElem?_set_self hl, r⟩
    · rw [List.getElem?_set_ne e] at hj ⊢
      exact R.fz j _ hj
  · by_cases e : i = j
    · subst e
      rw [List.getElem?_set_self hl'] at hj
      cases hj
    · rw [List.getElem?_set_ne e] at hj ⊢
      exact R.ow j _ hj
  · by_cases e : i = j
    · subst e
      rw [List.getElem?_set_self hl'] at hj
      cases hj
    · rw [List.getElem?_set_ne e] at hj ⊢
      exact R.ex j a C ks vs hj
  · by_cases e : i = j
    · subst e
      rw [List.getElem?_set_self hl'] at hj
      cases hj
    · by_cases e2 : i = k
      · subst e2
        rw [List.getElem?_set_self hl'] at hk
        cases hk
      · rw [List.getElem?_set_ne e] at hj ⊢
        rw [List.getElem?_set_ne e2] at hk ⊢
        exact R.sep j k o u p hj hk
  · have e : i ≠ j := fun z => hi (z ▸ hj)
    rw [List.getElem?_set_ne e]
    exact R.pin j hj
  · by_cases e : i = j
    · subst e
      rw [List.getElem?_set_self hl'] at hj
      cases hj
    · rw [List.getElem?_set_ne e] at hj hp
      exact R.fr j o p hj hn hp
theorem own_setFz {i : Nat} {v : V} {d : D} : ∀ b, Own (σ.set i (some v)) (env.set i (some (.fz d))) b → Own σ env b := fun b ⟨j, o, h1, h2⟩ => by
  by_cases e : i = j
  · subst e
    by_cases hl : i < env.length
    · rw [List.getElem?_set_self hl] at h1; cases h1
    · rw [List.getElem?_eq_none (by rw [List.length_set]; omega)] at h1; cases h1
  · rw [List.getElem?_set_ne e] at h1 h2
    exact ⟨j, o, h1, h2⟩
/-- slot i gets an owned object that none owns -/
theorem Rel.setOw (R : Rel M c F H σ env) {i : Nat} {p : Addr} {o : O} (hi : i ∉ c.pn) (hl : i < σ.length) (hp : F p = none) (r : ORep M F H p o) (hn : ¬ Own σ env p) (h0 : c.h₀ p = none) : Rel M c F H (σ.set i (some (.ref p))) (env.set i (some (.ow o))) := by
  have hl' : i < env.length := by rw [R.len]; exact hl
  refine ⟨R.sub, by rw [List.length_set, List.length_set]; exact R.len, fun j e hj => ?_, fun j o' hj => ?_, fun j a C ks vs hj => ?_, fun j k o' u q hj hk hj' hk' => ?_, fun j hj => ?_, R.old, fun j o' q hj hn' hq => ?_⟩
  · by_cases e : i = j
    · subst e
      rw [List.getElem?_set_self hl'] at hj
      cases hj
    · rw [List.getElem?_set_ne e] at hj ⊢
      exact R.fz j _ hj
  · by_cases e : i = j
    · subst e
      rw [List.getElem?_set_self hl'] at hj
      cases hj
      exact ⟨p, List.getElem?_set_self hl, hp, r⟩
    · rw [List.getElem?_set_ne e] at hj ⊢
      exact R.ow j _ hj
  · by_cases e : i = j
    · subst e
      rw [List.getElem?_set_self hl'] at hj
      cases hj
    · rw [List.getElem?_set_ne e] at hj ⊢
      exact R.ex j a C ks vs hj
  · by_cases e : i = j
    · subst e
      by_cases e2 : i = k
      · exact e2
      · rw [List.getElem?_set_ne e2] at hk hk'
        rw [List.getElem?_set_self hl] at hj'
        cases hj'
        exact absurd ⟨k, u, hk, hk'⟩ hn
    · by_cases e2 : i = k
      · subst e2
        rw [List.getElem?_set_ne e] at hj hj'
        rw [List.getElem?_set_self hl] at hk'
        cases hk'
        exact absurd ⟨j, o', hj, hj'⟩ hn
      · rw [List.getElem?_set_ne e] at hj hj'
        rw [List.getElem?_set_ne e2] at hk hk'
        exact R.sep j k o' u q hj hk hj' hk'
  · have e : i ≠ j := fun z => hi (z ▸ hj)
    rw [List.getElem?_set_ne e]
    exact R.pin j hj
  · by_cases e : i = j
    · subst e
      rw [List.getElem?_set_self hl] at hq
      cases hq
      exact h0
    · rw [List.getElem?_set_ne e] at hj hq
      exact R.fr j o' q hj hn' hq
theorem own_setOw {i : Nat} {p : Addr} {o : O} : ∀ b, Own (σ.set i (some (.ref p))) (env.set i (some (.ow o))) b → Own σ env b ∨ b = p := fun b ⟨j, o', h1, h2⟩ => by
  by_cases e : i = j
  · subst e
    by_cases hl : i < σ.length
    · rw [List.getElem?_set_self hl] at h2; cases h2; exact .inr rfl
    · rw [List.getElem?_eq_none (by rw [List.length_set]; omega)] at h2; cases h2
  · rw [List.getElem?_set_ne e] at h1 h2
    exact .inl ⟨j, o', h1, h2⟩
/-- slot i forgotten by the environment -/
theorem Rel.forget (R : Rel M c F H σ env) (i : Nat) : Rel M c F H σ (env.set i none) := by
  have key : ∀ {j : Nat} {v : Val}, (env.set i none)[j]? = some (some v) → env[j]? = some (some v) := fun {j v} h => by
    by_cases e : i = j
    · subst e
      by_cases hl : i < env.length
      · rw [List.getElem?_set_self hl] at h; cases h
      · rw [List.getElem?_eq_none (by rw [List.length_set]; omega)] at h; cases h
    · rw [List.getElem?_set_ne e] at h; exact h
  exact ⟨R.sub, by rw [List.length_set]; exact R.len, fun j d h => R.fz j d (key h), fun j o h => R.ow j o (key h), fun j a C ks vs h => R.ex j a C ks vs (key h), fun j k o u p h1 h2 => R.sep j k o u p (key h1) (key h2), R.pin, R.old, fun j o p h => R.fr j o p (key h)⟩
theorem own_forget {i : Nat} : ∀ b, Own σ (env.set i none) b → Own σ env b := fun b ⟨j, o, h1, h2⟩ => by
  by_cases e : i = j
  · subst e
    by_cases hl : i < env.length
    · rw [List.getElem?_set_self hl] at h1; cases h1
    · rw [List.getElem?_eq_none (by rw [List.length_set]; omega)] at h1; cases h1
  · rw [List.getElem?_set_ne e] at h1
    exact ⟨j, o, h1, h2⟩
/-- slot i's owned object is written: from o to o' -/
theorem Rel.write (R : Rel M c F H σ env) {i : Nat} {p : Addr} {o o' : O} {u : HO} (h : env[i]? = some (some (.ow o))) (hp : σ[i]? = some (some (.ref p))) (r : ORep M F (upd H p u) p o') :
    Rel M c F (upd H p u) σ (env.set i (some (.ow o'))) ∧ Evo (Own σ env) (Own σ (env.set i (some (.ow o')))) F H F (upd H p u) := by
  have hi : i < env.length := (List.getElem?_eq_some_iff.mp h).1
  obtain ⟨q, h1, h2, h3⟩ := R.ow i o h
  rw [hp] at h1; cases h1
  have hs : Same F (upd H p u) := fun b v hb => by
    have hb' : b ≠ p := fun z => by rw [z, h2] at hb; cases hb
    rw [upd_ne hb']; exact R.sub _ _ hb
  have own : ∀ b, Own σ (env.set i (some (.ow o'))) b → Own σ env b := fun b ⟨j, v, h6, h7⟩ => by
    by_cases e : i = j
    · subst e; exact ⟨i, o, h, h7⟩
    · rw [List.getElem?_set_ne e] at h6
      exact ⟨j, v, h6, h7⟩
  refine ⟨⟨hs, by rw [List.length_set]; exact R.len, fun j d hj => ?_, fun j v hj => ?_, fun j a C ks vs hj => ?_, fun j k v w q hj hk hj' hk' => ?_, R.pin, fun b v hb => ?_, fun j v q hj hn hq => ?_⟩, ⟨Same.refl _, fun b v hb => .inl hb, fun b v hb hn => ?_, fun b v hb => ?_, fun b hb => .inl (own b hb)⟩⟩
  · by_cases e : i = j
    · subst e
      rw [List.getElem?_set_self hi] at hj
      cases hj
    · rw [List.getElem?_set_ne e] at hj
      exact R.fz j d hj
  · by_cases e : i = j
    · subst e
      rw [List.getElem?_set_self hi] at hj
      cases hj
      exact ⟨p, hp, h2, r⟩
    · rw [List.getElem?_set_ne e] at hj
      obtain ⟨q, h6, h7, h8⟩ := R.ow j v hj
      have hq : q ≠ p := fun z => e (R.sep i j _ _ p h hj hp (z ▸ h6))
      exact ⟨q, h6, h7, h8.same (Same.refl _) (upd_ne hq)⟩
  · by_cases e : i = j
    · subst e
      rw [List.getElem?_set_self hi] at hj
      cases hj
    · rw [List.getElem?_set_ne e] at hj
      exact R.ex j a C ks vs hj
  · have back : ∀ {j : Nat} {v : O}, (env.set i (some (.ow o')))[j]? = some (some (.ow v)) → ∃ v', env[j]? = some (some (.ow v')) := fun {j v} hj => by
      by_cases e : i = j
      · subst e; exact ⟨o, h⟩
      · rw [List.getElem?_set_ne e] at hj; exact ⟨v, hj⟩
    obtain ⟨v', hj2⟩ := back hj
    obtain ⟨w', hk2⟩ := back hk
    exact R.sep j k v' w' q hj2 hk2 hj' hk'
  · obtain ⟨u', hu⟩ := R.old b v hb
    by_cases e : b = p
    · exact ⟨u, by rw [e]; exact upd_same⟩
    · exact ⟨u', by rw [upd_ne e]; exact hu⟩
  · by_cases e : i = j
    · subst e; exact R.fr i o q h hn hq
    · rw [List.getElem?_set_ne e] at hj
      exact R.fr j v q hj hn hq
  · have : b ≠ p := fun z => hn ⟨i, o, h, z ▸ hp⟩
    rw [upd_ne this]; exact hb
  · by_cases e : b = p
    · subst e; exact ⟨u, upd_same⟩
    · exact ⟨v, by rw [upd_ne e]; exact hb⟩
end
end LV


set_option Elab.async false
set_option linter.all false
set_option maxRecDepth 100000
namespace LV
open PySem PySem.Spec L2

abbrev mdX (X : Cx) : Md := ⟨X.K, X.mg, X.w⟩
/-! ### looking at a value -/
def Vw (M : Md) (F H : Hp) (v : V) : D → Prop
  | .tup ds => ∃ a xs, v = .ref a ∧ SqT M.K F a xs ∧ RepL M F xs ds
  | .lst ds => ∃ a xs, v = .ref a ∧ H a = some (.lst xs) ∧ RepL M F xs ds
  | .scr ns => ∃ a, v = .ref a ∧ SqL M.K H a (ns.map V.int)
  | .dct ks ds => ∃ a, v = .ref a ∧ ORep M F H a (.dct ks ds)
  | .ins C ks ds => ∃ a, v = .ref a ∧ ORep M F H a (.ins C ks ds)
  | .non => v = .non
  | .bl b => v = .bl b
  | .int i => v = .int i
  | .str s => v = .str s
theorem Rep.vw {M : Md} {F H : Hp} {v : V} {d : D} (s : Same F H) (r : Rep M F v d) : Vw M F H v d := by
  cases r with
  | non => rfl
  | bl b => rfl
  | int i => rfl
  | str x => rfl
  | tup h r => exact ⟨_, _, rfl, h, r⟩
  | lst h r => exact ⟨_, _, rfl, s _ _ h, r⟩
  | scr h => exact ⟨_, rfl, s.seq h⟩
  | dK h e r => subst e; exact ⟨_, rfl, .inl ⟨_, s _ _ h, rfl, r⟩⟩
  | dN h e1 e2 r1 e3 r2 => exact ⟨_, rfl, .inr ⟨_, _, s _ _ h, e1, e2, r1, e3, r2⟩⟩
  | ins g h e r => subst e; exact ⟨_, rfl, _, _, _, g, s _ _ h, rfl, r⟩
theorem ORep.vw {M : Md} {F H : Hp} {p : Addr} {o : O} (r : ORep M F H p o) : Vw M F H (.ref p) o.d := by
  cases o with
  | lst ds => obtain ⟨xs, h, r⟩ := r; exact ⟨_, _, rfl, h, r⟩
  | dct ks ds => exact ⟨_, rfl, r⟩
  | ins C ks ds => exact ⟨_, rfl, r⟩

/-! ### expressions -/
abbrev XW := Xn → En → Prop
abbrev EW := En → (Rv → En → Prop) → XW → Prop
structure Mono (w : EW) : Prop where
  mo : ∀ {env : En} {Q Q' : Rv → En → Prop} {E E' : XW}, (∀ r e, Q r e → Q' r e) → (∀ x e, E x e → E' x e) → w env Q E → w env Q' E'

/-- v is r, of an expression that began at H0 -/
def RvOk (M : Md) (F H H0 : Hp) (σ : St) (env : En) (v : V) : Rv → Prop
  | .fz d => Rep M F v d
  | .ow o => ∃ p, v = .ref p ∧ F p = none ∧ ORep M F H p o ∧ ¬ Own σ env p ∧ H0 p = none
  | .sl i => σ[i]? = some (some v) ∧ ∃ o, env[i]? = some (some (.ow o))
def EPost (M : Md) (c : Ct) (F H : Hp) (σ : St) (env : En) (Qv : VK) : Rv → En → Prop := fun r env' =>
  ∀ v F' H', Rel M c F' H' σ env' → Evo (Own σ env) (Own σ env') F H F' H' → RvOk M F' H' H σ env' v r → Qv v H'
def XPost (M : Md) (c : Ct) (W : WX) (F H : Hp) (σ : St) (env : En) : XW := fun x env' =>
  ∀ cl d F' H', Rel M c F' H' σ env' → Evo (Own σ env) (Own σ env') F H F' H' → XOk M F' x cl d → W cl d σ H'
/-- the reading of w -/
def ERd (M : Md) (c : Ct) (W : WX) (w : EW) : TE := fun σ H Qv => ∃ F env, Rel M c F H σ env ∧ w env (EPost M c F H σ env Qv) (XPost M c W F H σ env)
structure SE (X : Cx) (c : Ct) (W : WX) (e : Expr) (w : EW) : Prop where
  pe : PE X e (ERd (mdX X) c W w)
  mo : Mono w

theorem PE.imp {X : Cx} {e : Expr} {t t' : TE} (h : PE X e t) (i : ∀ σ H Q, t' σ H Q → t σ H Q) : PE X e t' := ⟨fun pins s σ H Q I q => h.run pins s σ H Q I (i σ H Q q)⟩
theorem PT.imp {X : Cx} {e : Expr} {t t' : TT} (h : PT X e t) (i : ∀ σ H Q, t' σ H Q → t σ H Q) : PT X e t' := ⟨fun pins s σ H Q I q => h.run pins s σ H Q I (i σ H Q q)⟩
theorem PA.imp {X : Cx} {e : List Expr} {t t' : TA} (h : PA X e t) (i : ∀ σ H Q, t' σ H Q → t σ H Q) : PA X e t' := ⟨fun pos pins s σ H Q I q => h.run pos pins s σ H Q I (i σ H Q q)⟩
theorem PS.imp {X : Cx} {e : Stmt} {t t' : TS} (h : PS X e t) (i : ∀ D σ H, t' D σ H → t D σ H) : PS X e t' := ⟨fun pins s σ H D I q => h.run pins s σ H D I (i D σ H q)⟩
theorem PSs.imp {X : Cx} {e : List Stmt} {t t' : TS} (h : PSs X e t) (i : ∀ D σ H, t' D σ H → t D σ H) : PSs X e t' := ⟨fun pins s σ H D I q => h.run pins s σ H D I (i D σ H q)⟩

section
variable {M : Md} {c : Ct} {W : WX} {F H F1 H1 : Hp} {σ : St} {env env1 : En}
/-- the wishes carried over a first step -/
theorem EPost.step (e : Evo (Own σ env) (Own σ env1) F H F1 H1) {Qv : VK} {r : Rv} {env2 : En} (h : EPost M c F H σ env Qv r env2) : EPost M c F1 H1 σ env1 Qv r env2 := fun v F' H' R' e' ok =>
  h v F' H' R' (e.trans e') (by
    cases r with
    | fz d => exact ok
    | ow o => obtain ⟨p, a1, a2, a3, a4, a5⟩ := ok; exact ⟨p, a1, a2, a3, a4, e.noneOf a5⟩
    | sl i => exact ok)
theorem XPost.step (e : Evo (Own σ env) (Own σ env1) F H F1 H1) {x : Xn} {env2 : En} (h : XPost M c W F H σ env x env2) : XPost M c W F1 H1 σ env1 x env2 := fun cl d F' H' R' e' ok => h cl d F' H' R' (e.trans e') ok
/-- a temp is frozen -/
theorem Evo.addF {A A' : Addr → Prop} {F H F' H' : Hp} (e : Evo A A' F H F' H') {p : Addr} {u : HO} (hp : F' p = none) (h0 : H p = none) : Evo A A' F H (upd F' p u) H' :=
  ⟨e.fs.trans (same_upd hp), fun b o h => by
    by_cases hb : b = p
    · subst hb; exact .inr (.inl h0)
    · rw [upd_ne hb] at h; exact e.fn b o h, e.hk, e.ht, e.aa⟩
theorem Rel.addF (R : Rel M c F H σ env) {p : Addr} {u : HO} (hu : H p = some u) (hp : F p = none) (hn : ¬ Own σ env p) : Rel M c (upd F p u) H σ env :=
  ⟨same_updR R.sub hu, R.len, fun i d h => by
    obtain ⟨v, h1, h2⟩ := R.fz i d h
    exact ⟨v, h1, h2.same (same_upd hp)⟩, fun i o h => by
    obtain ⟨q, h1, h2, h3⟩ := R.ow i o h
    have : q ≠ p := fun z => hn ⟨i, o, h, z ▸ h1⟩
    exact ⟨q, h1, by rw [upd_ne this]; exact h2, h3.same (same_upd hp) rfl⟩, fun i a C ks vs h => (R.ex i a C ks vs h).imp id fun ⟨cl, d, h2, h3⟩ => ⟨cl, d, h2, h3.same (same_upd hp)⟩, R.sep, R.pin, R.old, R.fr⟩
end
/-- a temp made data -/
def Rv.frz : Rv → Rv
  | .ow o => .fz o.d
  | r => r
def wFz (w : EW) : EW := fun env Q E => w env (fun r e => Q r.frz e) E
theorem Mono.fz {w : EW} (m : Mono w) : Mono (wFz w) := ⟨fun hQ hE h => m.mo (fun r e q => hQ _ _ q) hE h⟩
section
variable {X : Cx} {c : Ct} {W : WX} {e a b : Expr} {w wa wb : EW}
theorem ERd.fz {M : Md} (m : Mono w) {σ : St} {H : Hp} {Q : VK} (h : ERd M c W (wFz w) σ H Q) : ERd M c W w σ H Q := by
  obtain ⟨F, env, R, h⟩ := h
  refine ⟨F, env, R, m.mo (fun r e q => ?_) (fun _ _ q => q) h⟩
  intro v F' H' R' ev ok
  cases r with
  | fz d => exact q v F' H' R' ev ok
  | sl i => exact q v F' H' R' ev ok
  | ow o =>
    obtain ⟨p, rfl, a2, a3, a4, a5⟩ := ok
    obtain ⟨u, hu, rp⟩ := a3.freeze a2
    exact q _ (upd F' p u) H' (R'.addF hu a2 a4) (ev.addF a2 a5) rp
theorem SE.fz (h : SE X c W e w) : SE X c W e (wFz w) := ⟨PE.imp h.pe fun σ H Q q => ERd.fz h.mo q, h.mo.fz⟩

/-- an operand's value: data or a slot's object -/
def look (env : En) : Rv → Option D
  | .fz d => some d
  | .ow o => some o.d
  | .sl i => match env[i]? with
    | some (some (.ow o)) => some o.d
    | some (some (.fz d)) => some d
    | _ => none
/-- what an operand is, later on -/
def OpOk (M : Md) (F : Hp) (σ : St) (v : V) : Rv → Prop
  | .fz d => Rep M F v d
  | .ow _ => False
  | .sl i => σ[i]? = some (some v)
theorem OpOk.same {M : Md} {F F' : Hp} {σ : St} {v : V} {r : Rv} (s : Same F F') (h : OpOk M F σ v r) : OpOk M F' σ v r := by
  cases r with
  | fz d => exact Rep.same s h
  | ow o => exact h
  | sl i => exact h
theorem RvOk.opF {M : Md} {F H H0 : Hp} {σ : St} {env : En} {v : V} {r : Rv} (h : RvOk M F H H0 σ env v r) (n : ∀ o, r ≠ .ow o) : OpOk M F σ v r := by
  cases r with
  | fz d => exact h
  | ow o => exact absurd rfl (n o)
  | sl i => exact h.1
theorem frz_ne (r : Rv) : ∀ o, r.frz ≠ .ow o := by cases r <;> intro o h <;> cases h
theorem OpOk.vw {M : Md} {F H : Hp} {σ : St} {env : En} {v : V} {r : Rv} {d : D} (R : Rel M c F H σ env) (h : OpOk M F σ v r) (l : look env r = some d) : Vw M F H v d := by
  cases r with
  | fz e => cases l; exact Rep.vw R.sub h
  | ow o => exact h.elim
  | sl i =>
    have h' : σ[i]? = some (some v) := h
    cases he : env[i]? with
    | none => simp only [look, he] at l; cases l
    | some x =>
      cases x with
      | none => simp only [look, he] at l; cases l
      | some y =>
        cases y with
        | fz e =>
          simp only [look, he] at l
          cases l
          obtain ⟨u, h1, h2⟩ := R.fz i _ he
          rw [h'] at h1; cases h1
          exact Rep.vw R.sub h2
        | ow o =>
          simp only [look, he] at l
          cases l
          obtain ⟨p, h1, _, h3⟩ := R.ow i o he
          rw [h'] at h1; cases h1
          exact h3.vw
        | ex _ _ _ _ => simp only [look, he] at l; cases l

/-- a primitive's result, from (F, H) -/
def NOk (M : Md) (F' H' H : Hp) (v : V) : Rv → Prop
  | .fz d => Rep M F' v d
  | .ow o => ∃ p, v = .ref p ∧ F' p = none ∧ ORep M F' H' p o ∧ H p = none
  | .sl _ => False
def NPost (M : Md) (F H : Hp) (Qv : VK) : Rv → Prop := fun r => ∀ v F' H', Same F' H' → Evo Nob Nob F H F' H' → NOk M F' H' H v r → Qv v H'
theorem NPost.of {M : Md} {c : Ct} {F H : Hp} {σ : St} {env : En} {Qv : VK} {r : Rv} (R : Rel M c F H σ env) (h : EPost M c F H σ env Qv r env) : NPost M F H Qv r := fun v F' H' s e ok => by
  have R' := R.evo e s
  refine h v F' H' R' e.nob ?_
  cases r with
  | fz d => exact ok
  | sl i => exact ok.elim
  | ow o =>
    obtain ⟨p, a1, a2, a3, a4⟩ := ok
    refine ⟨p, a1, a2, a3, fun z => ?_, a4⟩
    obtain ⟨u, hu⟩ := R.own_some z
    rw [a4] at hu; cases hu
theorem NPost.here {M : Md} {F H : Hp} {Qv : VK} {d : D} {v : V} (h : NPost M F H Qv (.fz d)) (s : Same F H) (r : Rep M F v d) : Qv v H := h v F H s Evo.refl r
theorem NPost.newT {M : Md} {F H : Hp} {Qv : VK} {ds : List D} {xs : List V} (h : NPost M F H Qv (.fz (.tup ds))) (s : Same F H) (r : RepL M F xs ds) {p : Addr} (hp : H p = none) : Qv (.ref p) (upd H p (.tup xs)) :=
  h _ (upd F p (.tup xs)) _ (same_newF s hp) (Evo.newF hp (s.free hp)) (.tup (.inl (.inl upd_same)) (r.same (same_upd (s.free hp))))
theorem NPost.newL {M : Md} {F H : Hp} {Qv : VK} {ds : List D} {xs : List V} (h : NPost M F H Qv (.ow (.lst ds))) (s : Same F H) (r : RepL M F xs ds) {p : Addr} (hp : H p = none) : Qv (.ref p) (upd H p (.lst xs)) :=
  h _ F _ (same_newO s hp) (Evo.newO hp) ⟨p, rfl, s.free hp, ⟨xs, upd_same, r⟩, hp⟩

/-! ### binary operators by values -/
abbrev G2 := D → D → (Rv → Prop) → Prop
structure Mono2 (g : G2) : Prop where
  mo : ∀ {a b : D} {Q Q' : Rv → Prop}, (∀ r, Q r → Q' r) → g a b Q → g a b Q'
structure VR2 (X : Cx) (f : Value → Value → Sem Value) (g : G2) : Prop where
  ok : OpR X f (fun x y H Qv => ∃ F da db, Same F H ∧ Vw (mdX X) F H x da ∧ Vw (mdX X) F H y db ∧ g da db (NPost (mdX X) F H Qv))
  mo : Mono2 g
def wOp2 (g : G2) (wa wb : EW) : EW := fun env Q E => wFz wa env (fun ra env1 => wFz wb env1 (fun rb env2 => ∃ da db, look env2 ra = some da ∧ look env2 rb = some db ∧ g da db (fun r => Q r env2)) E) E
theorem Mono.op2 {g : G2} (mg : Mono2 g) (ma : Mono wa) (mb : Mono wb) : Mono (wOp2 g wa wb) := ⟨fun hQ hE h => ma.fz.mo (fun ra e1 q => mb.fz.mo (fun rb e2 ⟨da, db, l1, l2, q⟩ => ⟨da, db, l1, l2, mg.mo (fun r z => hQ _ _ z) q⟩) hE q) hE h⟩
/-- an operand: what is needed behind it -/
theorem opd {M : Md} {F H : Hp} {env : En} {σ : St} {K : Rv → En → Prop} {Qv : VK} (ma : Mono wa) (R : Rel M c F H σ env) (h : wFz wa env K (XPost M c W F H σ env))
    (k : ∀ r env' v F' H', Rel M c F' H' σ env' → Evo (Own σ env) (Own σ env') F H F' H' → OpOk M F' σ v r → K r env' → Qv v H') : ERd M c W wa σ H Qv := by
  refine ⟨F, env, R, ma.mo (fun r e q => ?_) (fun _ _ z => z) h⟩
  intro v F' H' R' ev ok
  cases r with
  | fz d => exact k (.fz d) _ v F' H' R' ev ok q
  | sl i => exact k (.sl i) _ v F' H' R' ev ok.1 q
  | ow o =>
    obtain ⟨p, rfl, a2, a3, a4, a5⟩ := ok
    obtain ⟨u, hu, rp⟩ := a3.freeze a2
    exact k (.fz o.d) _ _ (upd F' p u) H' (R'.addF hu a2 a4) (ev.addF a2 a5) rp q
theorem opd2 {M : Md} {F H : Hp} {env : En} {σ : St} {K : Rv → Rv → En → Prop} {Rv2 : V → V → Hp → Prop} (ma : Mono wa) (mb : Mono wb) (R : Rel M c F H σ env)
    (h : wFz wa env (fun ra env1 => wFz wb env1 (K ra) (XPost M c W F H σ env)) (XPost M c W F H σ env))
    (k : ∀ ra rb env' x y F' H', Rel M c F' H' σ env' → Evo (Own σ env) (Own σ env') F H F' H' → OpOk M F' σ x ra → OpOk M F' σ y rb → K ra rb env' → Rv2 x y H') :
    ERd M c W wa σ H fun x H1 => ERd M c W wb σ H1 fun y H2 => Rv2 x y H2 :=
  opd ma R h fun ra env1 x F1 H1 R1 e1 ok1 q => opd mb R1 (mb.fz.mo (fun _ _ z => z) (fun _ _ z => XPost.step e1 z) q) fun rb env2 y F2 H2 R2 e2 ok2 q2 =>
    k ra rb env2 x y F2 H2 R2 (e1.trans e2) (ok1.same e2.fs) ok2 q2
theorem se_op {op : Operator} {g : G2} {pos : Pos} (ho : VR2 X (binaryOp op) g) (ha : SE X c W a wa) (hb : SE X c W b wb) : SE X c W (.BinOp a op b pos) (wOp2 g wa wb) := by
  refine ⟨PE.imp (pe_op ho.ok ha.pe hb.pe) fun σ H Q h => ?_, .op2 ho.mo ha.mo hb.mo⟩
  obtain ⟨F, env, R, h⟩ := h
  refine opd2 ha.mo hb.mo R h fun ra rb env' x y F' H' R' e o1 o2 q => ?_
  obtain ⟨da, db, l1, l2, q⟩ := q
  exact ⟨F', da, db, R'.sub, o1.vw R' l1, o2.vw R' l2, ho.mo.mo (fun r z => NPost.of R' (EPost.step e z)) q⟩
theorem se_cmp {op : CmpOp} {g : G2} {pos : Pos} (ho : VR2 X (compareOp op) g) (ha : SE X c W a wa) (hb : SE X c W b wb) (hm : behindInMarks op b = false) : SE X c W (.Compare a [op] [b] pos) (wOp2 g wa wb) := by
  refine ⟨PE.imp (pe_cmpR ho.ok ha.pe hb.pe hm) fun σ H Q h => ?_, .op2 ho.mo ha.mo hb.mo⟩
  obtain ⟨F, env, R, h⟩ := h
  refine opd2 ha.mo hb.mo R h fun ra rb env' x y F' H' R' e o1 o2 q => ?_
  obtain ⟨da, db, l1, l2, q⟩ := q
  exact ⟨F', da, db, R'.sub, o1.vw R' l1, o2.vw R' l2, ho.mo.mo (fun r z => NPost.of R' (EPost.step e z)) q⟩

/-! ### names, constants -/
def wVar (i : Nat) : EW := fun env Q _ => match env[i]? with
  | some (some (.fz d)) => Q (.fz d) env
  | some (some (.ow _)) => Q (.sl i) env
  | _ => False
theorem Mono.var {i : Nat} : Mono (wVar i) := ⟨fun {env Q Q' E E'} hQ hE h => by
  unfold wVar at h ⊢
  split at h
  · exact hQ _ _ h
  · exact hQ _ _ h
  · exact h⟩
theorem se_var {i : Nat} {x : Str} {pos : Pos} (hN : X.N[i]? = some x := by rfl) (hv : Vis X.env.scope x := by first | exact Or.inl rfl | exact Or.inr (Or.inl rfl) | exact Or.inr (Or.inr rfl)) (hd : (x == ("__debug__" : Str)) = false := by decide)
    (hcd : (x == ("__classdict__" : Str)) = false := by decide) : SE X c W (.Name x pos) (wVar i) := by
  refine ⟨PE.imp (pe_var hN hv hd hcd) fun σ H Q h => ?_, .var⟩
  obtain ⟨F, env, R, h⟩ := h
  unfold wVar at h
  split at h
  · rename_i d hd
    obtain ⟨v, h1, h2⟩ := R.fz i d hd
    exact ⟨v, h1, h v F H R Evo.refl h2⟩
  · rename_i o ho
    obtain ⟨p, h1, h2, h3⟩ := R.ow i o ho
    exact ⟨_, h1, h _ F H R Evo.refl ⟨h1, o, ho⟩⟩
  · exact h.elim
def wC (d : D) : EW := fun env Q _ => Q (.fz d) env
theorem Mono.C {d : D} : Mono (wC d) := ⟨fun hQ _ h => hQ _ _ h⟩
theorem se_const {v : V} {d : D} (h : PE X e (tC v)) (r : ∀ F, Rep (mdX X) F v d) : SE X c W e (wC d) := by
  refine ⟨PE.imp h fun σ H Q h => ?_, .C⟩
  obtain ⟨F, env, R, h⟩ := h
  exact h v F H R Evo.refl (r F)
theorem se_int {i j pos} : SE X c W (.Constant (.int i) j pos) (wC (.int i)) := se_const pe_int fun _ => .int i
theorem se_bl {i j pos} : SE X c W (.Constant (.bool i) j pos) (wC (.bl i)) := se_const pe_bl fun _ => .bl i
theorem se_non {j pos} : SE X c W (.Constant .none j pos) (wC .non) := se_const pe_non fun _ => .non
theorem se_str {i j pos} : SE X c W (.Constant (.str i) j pos) (wC (.str i)) := se_const pe_str fun _ => .str i
end
end LV


set_option Elab.async false
set_option linter.all false
set_option maxRecDepth 100000
namespace LV
open PySem PySem.Spec L2

/-! ### tests -/
abbrev TW := En → (Bool → En → Prop) → XW → Prop
structure MonoT (w : TW) : Prop where
  mo : ∀ {env : En} {Q Q' : Bool → En → Prop} {E E' : XW}, (∀ r e, Q r e → Q' r e) → (∀ x e, E x e → E' x e) → w env Q E → w env Q' E'
def TPost (M : Md) (c : Ct) (F H : Hp) (σ : St) (env : En) (Qb : Bool → Hp → Prop) : Bool → En → Prop := fun b env' =>
  ∀ F' H', Rel M c F' H' σ env' → Evo (Own σ env) (Own σ env') F H F' H' → Qb b H'
theorem TPost.step {M : Md} {c : Ct} {F H F1 H1 : Hp} {σ : St} {env env1 : En} (e : Evo (Own σ env) (Own σ env1) F H F1 H1) {Qb : Bool → Hp → Prop} {r : Bool} {env2 : En} (h : TPost M c F H σ env Qb r env2) : TPost M c F1 H1 σ env1 Qb r env2 :=
  fun F' H' R' e' => h F' H' R' (e.trans e')
def TRd (M : Md) (c : Ct) (W : WX) (w : TW) : TT := fun σ H Qb => ∃ F env, Rel M c F H σ env ∧ w env (TPost M c F H σ env Qb) (XPost M c W F H σ env)
structure ST (X : Cx) (c : Ct) (W : WX) (e : Expr) (w : TW) : Prop where
  pt : PT X e (TRd (mdX X) c W w)
  mo : MonoT w
structure SPW (X : Cx) (c : Ct) (W : WX) (e : Expr) (w : TW) : Prop where
  pt : PW X e (TRd (mdX X) c W w)
  mo : MonoT w
theorem PW.imp {X : Cx} {e : Expr} {t t' : TT} (h : PW X e t) (i : ∀ σ H Q, t' σ H Q → t σ H Q) : PW X e t' := ⟨fun wh pins s σ H Q I q => h.run wh pins s σ H Q I (i σ H Q q)⟩

/-- an expression's value that must be True or False -/
def wB (w : EW) : TW := fun env Q E => w env (fun r e => ∃ b, r = .fz (.bl b) ∧ Q b e) E
theorem MonoT.B {w : EW} (m : Mono w) : MonoT (wB w) := ⟨fun hQ hE h => m.mo (fun r e ⟨b, e1, q⟩ => ⟨b, e1, hQ _ _ q⟩) hE h⟩
/-- a value's truth -/
def truD : D → Bool → Prop
  | .non, k => k = false
  | .bl b, k => k = b
  | .int i, k => k = (i != 0)
  | .str s, k => s.length ≤ sizeLine ∧ k = ((s.length : Int) != 0)
  | .tup ds, k => k = !ds.isEmpty
  | .lst ds, k => k = !ds.isEmpty
  | .scr ns, k => k = !ns.isEmpty
  | _, _ => False
def wTru (w : EW) : TW := fun env Q E => wFz w env (fun r e => ∃ d k, look e r = some d ∧ truD d k ∧ Q k e) E
theorem MonoT.tru {w : EW} (m : Mono w) : MonoT (wTru w) := ⟨fun hQ hE h => m.fz.mo (fun r e ⟨d, k, l, t, q⟩ => ⟨d, k, l, t, hQ _ _ q⟩) hE h⟩
theorem isEmpty_rep {M : Md} {F : Hp} {xs : List V} {ds : List D} (r : RepL M F xs ds) : xs.isEmpty = ds.isEmpty := by cases r <;> rfl
theorem truV_of {M : Md} {F H : Hp} {v : V} {d : D} {k : Bool} (sm : Same F H) (h : Vw M F H v d) (t : truD d k) : TruV M.K v H k := by
  cases d with
  | non => cases (show v = .non from h); exact t
  | bl b => cases (show v = .bl b from h); exact t
  | int i => cases (show v = .int i from h); exact t
  | str s => cases (show v = .str s from h); exact t
  | tup ds => obtain ⟨a, xs, rfl, q, r⟩ := h; exact .inr (.inl ⟨xs, Same.sqT sm q, by rw [isEmpty_rep r]; exact t⟩)
  | lst ds => obtain ⟨a, xs, rfl, q, r⟩ := h; exact .inl ⟨xs, .inl (.inl q), by rw [isEmpty_rep r]; exact t⟩
  | scr ns => obtain ⟨a, rfl, q⟩ := h; exact .inl ⟨_, q, by rw [show (ns.map V.int).isEmpty = ns.isEmpty by cases ns <;> rfl]; exact t⟩
  | dct _ _ => exact t.elim
  | ins _ _ _ => exact t.elim
section
variable {X : Cx} {c : Ct} {W : WX} {e a b d : Expr} {w wa wb wd : EW} {u ua ub : TW} {pos : Pos} {es rest : List Expr}
theorem TRd.post {M : Md} {F H F1 H1 : Hp} {σ : St} {env env1 : En} {Qb : Bool → Hp → Prop} (m : MonoT u) (R : Rel M c F1 H1 σ env1) (e : Evo (Own σ env) (Own σ env1) F H F1 H1)
    (h : u env1 (TPost M c F H σ env Qb) (XPost M c W F H σ env)) : TRd M c W u σ H1 Qb :=
  ⟨F1, env1, R, m.mo (fun _ _ z => TPost.step e z) (fun _ _ z => XPost.step e z) h⟩
theorem ERd.post {M : Md} {F H F1 H1 : Hp} {σ : St} {env env1 : En} {Qv : VK} (m : Mono w) (R : Rel M c F1 H1 σ env1) (e : Evo (Own σ env) (Own σ env1) F H F1 H1)
    (h : w env1 (EPost M c F H σ env Qv) (XPost M c W F H σ env)) : ERd M c W w σ H1 Qv :=
  ⟨F1, env1, R, m.mo (fun _ _ z => EPost.step e z) (fun _ _ z => XPost.step e z) h⟩
theorem st_val (h : SE X c W e w) (he : ∀ whole, isTrue e X.env whole = (do let v ← whole; standAt e.pos; holding [v] (truthy v)) := by intro _; rfl) : ST X c W e (wB w) := by
  refine ⟨PT.imp (pt_val h.pe he) fun σ H Q q => ?_, .B h.mo⟩
  obtain ⟨F, env, R, q⟩ := q
  refine ⟨F, env, R, h.mo.mo (fun r e ⟨b, e1, q⟩ => ?_) (fun _ _ z => z) q⟩
  subst e1
  intro v F' H' R' ev ok
  cases (show Rep (mdX X) F' v (.bl b) from ok)
  exact ⟨b, rfl, q F' H' R' ev⟩
theorem st_tru (h : SE X c W e w) (he : ∀ whole, isTrue e X.env whole = (do let v ← whole; standAt e.pos; holding [v] (truthy v)) := by intro _; rfl) : ST X c W e (wTru w) := by
  refine ⟨PT.imp (pt_truth h.pe he) fun σ H Q q => ?_, .tru h.mo⟩
  obtain ⟨F, env, R, q⟩ := q
  refine opd h.mo R q fun r env' v F' H' R' ev ok ⟨d, k, l, t, q⟩ => ?_
  exact ⟨k, truV_of R'.sub (ok.vw R' l) t, q F' H' R' ev⟩
theorem st_cmp {op : CmpOp} {g : G2} (ho : VR2 X (compareOp op) g) (ha : SE X c W a wa) (hb : SE X c W b wb) (hm : behindInMarks op b = false) : ST X c W (.Compare a [op] [b] pos) (wB (wOp2 g wa wb)) := by
  refine ⟨PT.imp (pt_cmpR ho.ok ha.pe hb.pe hm) fun σ H Q h => ?_, .B (.op2 ho.mo ha.mo hb.mo)⟩
  obtain ⟨F, env, R, h⟩ := h
  refine opd2 (K := fun ra rb env2 => ∃ da db, look env2 ra = some da ∧ look env2 rb = some db ∧ g da db (fun r => ∃ b, r = .fz (.bl b) ∧ TPost (mdX X) c F H σ env Q b env2)) ha.mo hb.mo R h fun ra rb env' x y F' H' R' e o1 o2 q => ?_
  obtain ⟨da, db, l1, l2, q⟩ := q
  refine ⟨F', da, db, R'.sub, o1.vw R' l1, o2.vw R' l2, ho.mo.mo (fun r z => ?_) q⟩
  obtain ⟨k, e1, z⟩ := z
  subst e1
  intro v F'' H'' s ev ok
  cases (show Rep (mdX X) F'' v (.bl k) from ok)
  exact ⟨k, rfl, z F'' H'' (R'.evo ev s) (e.trans ev.nob)⟩
def wtNot (u : TW) : TW := fun env Q E => u env (fun b e => Q (!b) e) E
theorem MonoT.not (m : MonoT u) : MonoT (wtNot u) := ⟨fun hQ hE h => m.mo (fun r e q => hQ _ _ q) hE h⟩
theorem st_not (h : ST X c W a u) : ST X c W (.UnaryOp .Not a pos) (wtNot u) := by
  refine ⟨PT.imp (pt_not h.pt) fun σ H Q q => ?_, .not h.mo⟩
  obtain ⟨F, env, R, q⟩ := q
  exact ⟨F, env, R, q⟩
def wtAnd (u v : TW) : TW := fun env Q E => u env (fun b e => if b = true then v e Q E else Q false e) E
def wtOr (u v : TW) : TW := fun env Q E => u env (fun b e => if b = true then Q true e else v e Q E) E
theorem MonoT.and (m : MonoT ua) (n : MonoT ub) : MonoT (wtAnd ua ub) := ⟨fun hQ hE h => m.mo (fun r e q => by
  cases r with
  | true => exact n.mo hQ hE q
  | false => exact hQ _ _ q) hE h⟩
theorem MonoT.or (m : MonoT ua) (n : MonoT ub) : MonoT (wtOr ua ub) := ⟨fun hQ hE h => m.mo (fun r e q => by
  cases r with
  | false => exact n.mo hQ hE q
  | true => exact hQ _ _ q) hE h⟩
theorem spw_and1 (h : ST X c W a ua) : SPW X c W (.BoolOp .And [a] pos) ua := ⟨pw_and1 h.pt, h.mo⟩
theorem spw_or1 (h : ST X c W a ua) : SPW X c W (.BoolOp .Or [a] pos) ua := ⟨pw_or1 h.pt, h.mo⟩
theorem spw_and (h : ST X c W a ua) (h2 : SPW X c W (.BoolOp .And (b :: rest) pos) ub) : SPW X c W (.BoolOp .And (a :: b :: rest) pos) (wtAnd ua ub) := by
  refine ⟨PW.imp (pw_and h.pt h2.pt) fun σ H Q q => ?_, .and h.mo h2.mo⟩
  obtain ⟨F, env, R, q⟩ := q
  refine ⟨F, env, R, h.mo.mo (fun r e1 q => ?_) (fun _ _ z => z) q⟩
  intro F' H' R' ev
  cases r with
  | true => exact TRd.post h2.mo R' ev q
  | false => exact q F' H' R' ev
theorem spw_or (h : ST X c W a ua) (h2 : SPW X c W (.BoolOp .Or (b :: rest) pos) ub) : SPW X c W (.BoolOp .Or (a :: b :: rest) pos) (wtOr ua ub) := by
  refine ⟨PW.imp (pw_or h.pt h2.pt) fun σ H Q q => ?_, .or h.mo h2.mo⟩
  obtain ⟨F, env, R, q⟩ := q
  refine ⟨F, env, R, h.mo.mo (fun r e1 q => ?_) (fun _ _ z => z) q⟩
  intro F' H' R' ev
  cases r with
  | false => exact TRd.post h2.mo R' ev q
  | true => exact q F' H' R' ev
theorem SPW.st (h : SPW X c W e u) : ST X c W e u := ⟨h.pt.pt, h.mo⟩

/-! ### and, or, not, if as values -/
def wAnd (wa wb : EW) : EW := fun env Q E => wa env (fun r e => ∃ b, r = .fz (.bl b) ∧ if b = true then wb e Q E else Q (.fz (.bl false)) e) E
def wOr (wa wb : EW) : EW := fun env Q E => wa env (fun r e => ∃ b, r = .fz (.bl b) ∧ if b = true then Q (.fz (.bl true)) e else wb e Q E) E
def wNot (wa : EW) : EW := fun env Q E => wa env (fun r e => ∃ b, r = .fz (.bl b) ∧ Q (.fz (.bl (!b))) e) E
theorem Mono.and (m : Mono wa) (n : Mono wb) : Mono (wAnd wa wb) := ⟨fun hQ hE h => m.mo (fun r e ⟨b, e1, q⟩ => ⟨b, e1, by
  cases b with
  | true => exact n.mo hQ hE q
  | false => exact hQ _ _ q⟩) hE h⟩
theorem Mono.or (m : Mono wa) (n : Mono wb) : Mono (wOr wa wb) := ⟨fun hQ hE h => m.mo (fun r e ⟨b, e1, q⟩ => ⟨b, e1, by
  cases b with
  | false => exact n.mo hQ hE q
  | true => exact hQ _ _ q⟩) hE h⟩
theorem Mono.not (m : Mono wa) : Mono (wNot wa) := ⟨fun hQ hE h => m.mo (fun r e ⟨b, e1, q⟩ => ⟨b, e1, hQ _ _ q⟩) hE h⟩
theorem se_one {op : BoolOp} (h : SE X c W a wa) : SE X c W (.BoolOp op [a] pos) wa := ⟨pe_one h.pe, h.mo⟩
theorem se_and (h : SE X c W a wa) (h2 : SE X c W (.BoolOp .And (b :: rest) pos) wb) : SE X c W (.BoolOp .And (a :: b :: rest) pos) (wAnd wa wb) := by
  refine ⟨PE.imp (pe_and h.pe h2.pe) fun σ H Q q => ?_, .and h.mo h2.mo⟩
  obtain ⟨F, env, R, q⟩ := q
  refine ⟨F, env, R, h.mo.mo (fun r e1 ⟨k, ek, q⟩ => ?_) (fun _ _ z => z) q⟩
  subst ek
  intro v F' H' R' ev ok
  cases (show Rep (mdX X) F' v (.bl k) from ok)
  refine ⟨k, rfl, ?_⟩
  cases k with
  | true => exact ERd.post h2.mo R' ev q
  | false => exact q _ F' H' R' ev (.bl false)
theorem se_or (h : SE X c W a wa) (h2 : SE X c W (.BoolOp .Or (b :: rest) pos) wb) : SE X c W (.BoolOp .Or (a :: b :: rest) pos) (wOr wa wb) := by
  refine ⟨PE.imp (pe_or h.pe h2.pe) fun σ H Q q => ?_, .or h.mo h2.mo⟩
  obtain ⟨F, env, R, q⟩ := q
  refine ⟨F, env, R, h.mo.mo (fun r e1 ⟨k, ek, q⟩ => ?_) (fun _ _ z => z) q⟩
  subst ek
  intro v F' H' R' ev ok
  cases (show Rep (mdX X) F' v (.bl k) from ok)
  refine ⟨k, rfl, ?_⟩
  cases k with
  | false => exact ERd.post h2.mo R' ev q
  | true => exact q _ F' H' R' ev (.bl true)
theorem se_not (h : SE X c W a wa) : SE X c W (.UnaryOp .Not a pos) (wNot wa) := by
  refine ⟨PE.imp (pe_not h.pe) fun σ H Q q => ?_, .not h.mo⟩
  obtain ⟨F, env, R, q⟩ := q
  refine ⟨F, env, R, h.mo.mo (fun r e1 ⟨k, ek, q⟩ => ?_) (fun _ _ z => z) q⟩
  subst ek
  intro v F' H' R' ev ok
  cases (show Rep (mdX X) F' v (.bl k) from ok)
  exact ⟨k, rfl, q _ F' H' R' ev (.bl _)⟩
def wIte (u : TW) (wa wb : EW) : EW := fun env Q E => u env (fun k e => if k = true then wa e Q E else wb e Q E) E
theorem Mono.ite (m : MonoT u) (ma : Mono wa) (mb : Mono wb) : Mono (wIte u wa wb) := ⟨fun hQ hE h => m.mo (fun r e q => by
  cases r with
  | true => exact ma.mo hQ hE q
  | false => exact mb.mo hQ hE q) hE h⟩
theorem se_ite (h : ST X c W e u) (ha : SE X c W a wa) (hb : SE X c W b wb) : SE X c W (.IfExp e a b pos) (wIte u wa wb) := by
  refine ⟨PE.imp (pe_ifExp h.pt ha.pe hb.pe) fun σ H Q q => ?_, .ite h.mo ha.mo hb.mo⟩
  obtain ⟨F, env, R, q⟩ := q
  refine ⟨F, env, R, h.mo.mo (fun r e1 q => ?_) (fun _ _ z => z) q⟩
  intro F' H' R' ev
  cases r with
  | true => exact ERd.post ha.mo R' ev q
  | false => exact ERd.post hb.mo R' ev q

/-! ### a < b < c -/
def wChain (g g' : G2) (wa wb wd : EW) : EW := fun env Q E => wFz wa env (fun ra e1 => wFz wb e1 (fun rb e2 => ∃ da db, look e2 ra = some da ∧ look e2 rb = some db ∧ g da db (fun r => ∃ k, r = .fz (.bl k) ∧
  if k = true then wFz wd e2 (fun rd e3 => ∃ db' dd, look e3 rb = some db' ∧ look e3 rd = some dd ∧ g' db' dd (fun r => Q r e3)) E else Q (.fz (.bl false)) e2)) E) E
theorem Mono.chain {g g' : G2} (mg : Mono2 g) (mg' : Mono2 g') (ma : Mono wa) (mb : Mono wb) (md : Mono wd) : Mono (wChain g g' wa wb wd) :=
  ⟨fun hQ hE h => ma.fz.mo (fun ra e1 q => mb.fz.mo (fun rb e2 ⟨da, db, l1, l2, q⟩ => ⟨da, db, l1, l2, mg.mo (fun r ⟨k, e, z⟩ => ⟨k, e, by
    cases k with
    | true =>
      rw [if_pos rfl] at z ⊢
      exact md.fz.mo (fun rd e3 ⟨x, y, l3, l4, z⟩ => ⟨x, y, l3, l4, mg'.mo (fun r z => hQ _ _ z) z⟩) hE z
    | false => exact hQ _ _ z⟩) q⟩) hE q) hE h⟩
theorem chain_core {op op' : CmpOp} {g g' : G2} (ho : VR2 X (compareOp op) g) (ho' : VR2 X (compareOp op') g') (ma : Mono wa) (mb : Mono wb) (md : Mono wd) {σ : St} {H : Hp} {Q : VK} {F : Hp} {env : En}
    (R : Rel (mdX X) c F H σ env) (h : wChain g g' wa wb wd env (EPost (mdX X) c F H σ env Q) (XPost (mdX X) c W F H σ env)) :
    tChain (fun x y H Qv => ∃ F da db, Same F H ∧ Vw (mdX X) F H x da ∧ Vw (mdX X) F H y db ∧ g da db (NPost (mdX X) F H Qv)) (fun x y H Qv => ∃ F da db, Same F H ∧ Vw (mdX X) F H x da ∧ Vw (mdX X) F H y db ∧ g' da db (NPost (mdX X) F H Qv))
      (ERd (mdX X) c W wa) (ERd (mdX X) c W wb) (ERd (mdX X) c W wd) σ H Q := by
  refine opd2 ma mb R h fun ra rb e2 x y F2 H2 R2 ev2 o1 o2 q => ?_
  obtain ⟨da, db, l1, l2, q⟩ := q
  refine ⟨F2, da, db, R2.sub, o1.vw R2 l1, o2.vw R2 l2, ho.mo.mo (fun r z => ?_) q⟩
  obtain ⟨k, ek, z⟩ := z
  subst ek
  intro v F3 H3 s ev3 ok3
  cases (show Rep (mdX X) F3 v (.bl k) from ok3)
  have R3 := R2.evo ev3 s
  have ev := ev2.trans (ev3.nob (A := Own σ e2))
  refine ⟨k, rfl, ?_⟩
  cases k with
  | false => exact z _ F3 H3 R3 ev (.bl false)
  | true =>
    rw [if_pos rfl] at z ⊢
    refine opd md R3 (md.fz.mo (fun _ _ z => z) (fun _ _ z => XPost.step ev z) z) fun rd e4 w F4 H4 R4 ev4 ok4 q4 => ?_
    obtain ⟨db', dd, l3, l4, q4⟩ := q4
    exact ⟨F4, db', dd, R4.sub, (o2.same (ev3.fs.trans ev4.fs)).vw R4 l3, ok4.vw R4 l4, ho'.mo.mo (fun r z => NPost.of R4 (EPost.step (ev.trans ev4) z)) q4⟩
theorem se_chain {op op' : CmpOp} {g g' : G2} (ho : VR2 X (compareOp op) g) (ho' : VR2 X (compareOp op') g') (ha : SE X c W a wa) (hb : SE X c W b wb) (hd : SE X c W d wd)
    (hm : lastMarks [op, op'] [b, d] = false := by with_unfolding_all rfl) : SE X c W (.Compare a [op, op'] [b, d] pos) (wChain g g' wa wb wd) := by
  refine ⟨PE.imp (pe_chain ho.ok ho'.ok ha.pe hb.pe hd.pe hm) fun σ H Q h => ?_, .chain ho.mo ho'.mo ha.mo hb.mo hd.mo⟩
  obtain ⟨F, env, R, h⟩ := h
  exact chain_core ho ho' ha.mo hb.mo hd.mo R h
theorem st_chain {op op' : CmpOp} {g g' : G2} (ho : VR2 X (compareOp op) g) (ho' : VR2 X (compareOp op') g') (ha : SE X c W a wa) (hb : SE X c W b wb) (hd : SE X c W d wd)
    (hm : lastMarks [op, op'] [b, d] = false := by with_unfolding_all rfl) : ST X c W (.Compare a [op, op'] [b, d] pos) (wB (wChain g g' wa wb wd)) := by
  have mm := Mono.chain ho.mo ho'.mo ha.mo hb.mo hd.mo
  refine ⟨PT.imp (pt_chain ho.ok ho'.ok ha.pe hb.pe hd.pe hm) fun σ H Q h => ?_, .B mm⟩
  obtain ⟨F, env, R, h⟩ := h
  refine chain_core ho ho' ha.mo hb.mo hd.mo R (mm.mo (fun r e ⟨k, ek, z⟩ => ?_) (fun _ _ z => z) h)
  subst ek
  intro v F' H' R' ev ok
  cases (show Rep (mdX X) F' v (.bl k) from ok)
  exact ⟨k, rfl, z F' H' R' ev⟩

/-! ### arguments -/
abbrev AW := En → (List Rv → En → Prop) → XW → Prop
structure MonoA (w : AW) : Prop where
  mo : ∀ {env : En} {Q Q' : List Rv → En → Prop} {E E' : XW}, (∀ r e, Q r e → Q' r e) → (∀ x e, E x e → E' x e) → w env Q E → w env Q' E'
def OpsOk (M : Md) (F : Hp) (σ : St) : List V → List Rv → Prop
  | [], [] => True
  | v :: vs, r :: rs => OpOk M F σ v r ∧ OpsOk M F σ vs rs
  | _, _ => False
theorem OpsOk.same {M : Md} {F F' : Hp} {σ : St} (s : Same F F') : ∀ {vs : List V} {rs : List Rv}, OpsOk M F σ vs rs → OpsOk M F' σ vs rs
  | [], [], _ => True.intro
  | _ :: _, _ :: _, ⟨h, r⟩ => ⟨h.same s, OpsOk.same s r⟩
  | [], _ :: _, h => h.elim
  | _ :: _, [], h => h.elim
def APost (M : Md) (c : Ct) (F H : Hp) (σ : St) (env : En) (Q : List V → Hp → Prop) : List Rv → En → Prop := fun rs env' =>
  ∀ vs F' H', Rel M c F' H' σ env' → Evo (Own σ env) (Own σ env') F H F' H' → OpsOk M F' σ vs rs → Q vs H'
def ARd (M : Md) (c : Ct) (W : WX) (w : AW) : TA := fun σ H Q => ∃ F env, Rel M c F H σ env ∧ w env (APost M c F H σ env Q) (XPost M c W F H σ env)
structure SA (X : Cx) (c : Ct) (W : WX) (es : List Expr) (w : AW) : Prop where
  pa : PA X es (ARd (mdX X) c W w)
  mo : MonoA w
def wNil : AW := fun env Q _ => Q [] env
def wCons (w : EW) (wl : AW) : AW := fun env Q E => wFz w env (fun r e => wl e (fun rs e2 => Q (r :: rs) e2) E) E
theorem sa_nil : SA X c W [] wNil := ⟨PA.imp pa_nil fun σ H Q h => by
  obtain ⟨F, env, R, h⟩ := h
  exact h [] F H R Evo.refl True.intro, ⟨fun hQ _ h => hQ _ _ h⟩⟩
theorem sa_cons {wl : AW} (h : SE X c W e w) (h2 : SA X c W es wl) (hs : starEach (e :: es) X.env = (false, eval e X.env) :: starEach es X.env := by rfl) : SA X c W (e :: es) (wCons w wl) := by
  refine ⟨PA.imp (pa_cons h.pe h2.pa hs) fun σ H Q q => ?_, ⟨fun hQ hE q => h.mo.fz.mo (fun r e q => h2.mo.mo (fun rs e q => hQ _ _ q) hE q) hE q⟩⟩
  obtain ⟨F, env, R, q⟩ := q
  refine opd h.mo R q fun r e1 v F1 H1 R1 ev1 ok1 q1 => ?_
  refine ⟨F1, e1, R1, h2.mo.mo (fun rs e2 q2 => ?_) (fun _ _ z => XPost.step ev1 z) q1⟩
  intro vs F2 H2 R2 ev2 ok2
  exact q2 (v :: vs) F2 H2 R2 (ev1.trans ev2) ⟨ok1.same ev2.fs, ok2⟩

def lookL (env : En) : List Rv → Option (List D)
  | [] => some []
  | r :: rs => match look env r, lookL env rs with
    | some d, some ds => some (d :: ds)
    | _, _ => none
def VwL (M : Md) (F H : Hp) : List V → List D → Prop
  | [], [] => True
  | v :: vs, d :: ds => Vw M F H v d ∧ VwL M F H vs ds
  | _, _ => False
theorem OpsOk.vw {M : Md} {F H : Hp} {σ : St} {env : En} (R : Rel M c F H σ env) : ∀ {vs : List V} {rs : List Rv} {ds : List D}, OpsOk M F σ vs rs → lookL env rs = some ds → VwL M F H vs ds
  | [], [], _, _, l => by cases l; exact True.intro
  | v :: vs, r :: rs, ds, ⟨h, t⟩, l => by
    unfold lookL at l
    cases h1 : look env r with
    | none => rw [h1] at l; cases l
    | some x =>
      cases h2 : lookL env rs with
      | none => rw [h1, h2] at l; cases l
      | some xs =>
        rw [h1, h2] at l
        cases l
        exact ⟨h.vw R h1, OpsOk.vw R t h2⟩
  | [], _ :: _, _, h, _ => h.elim
  | _ :: _, [], _, h, _ => h.elim

/-! ### builtins called, by values -/
abbrev GL := List D → (Rv → Prop) → Prop
structure MonoL (g : GL) : Prop where
  mo : ∀ {ds : List D} {Q Q' : Rv → Prop}, (∀ r, Q r → Q' r) → g ds Q → g ds Q'
structure VRL (X : Cx) (f : Value) (g : GL) : Prop where
  ok : CallR X f (fun vs H Qv => ∃ F ds, Same F H ∧ VwL (mdX X) F H vs ds ∧ g ds (NPost (mdX X) F H Qv))
  mo : MonoL g
def wBlt (g : GL) (wl : AW) : EW := fun env Q E => wl env (fun rs e => ∃ ds, lookL e rs = some ds ∧ g ds (fun r => Q r e)) E
theorem Mono.blt {g : GL} {wl : AW} (mg : MonoL g) (ml : MonoA wl) : Mono (wBlt g wl) := ⟨fun hQ hE h => ml.mo (fun rs e ⟨ds, l, q⟩ => ⟨ds, l, mg.mo (fun r z => hQ _ _ z) q⟩) hE h⟩
theorem blt_core {M : Md} {g : GL} {wl : AW} (mg : MonoL g) (ml : MonoA wl) {σ : St} {H : Hp} {Q : VK} (h : ERd M c W (wBlt g wl) σ H Q) :
    ARd M c W wl σ H fun vs H1 => ∃ F ds, Same F H1 ∧ VwL M F H1 vs ds ∧ g ds (NPost M F H1 Q) := by
  obtain ⟨F, env, R, h⟩ := h
  refine ⟨F, env, R, ml.mo (fun rs e ⟨ds, l, q⟩ => ?_) (fun _ _ z => z) h⟩
  intro vs F' H' R' ev ok
  exact ⟨F', ds, R'.sub, ok.vw R' l, mg.mo (fun r z => NPost.of R' (EPost.step ev z)) q⟩
theorem se_callB {x : Str} {p : Pos} {id : String} {g : GL} {wl : AW} (hc : VRL X (.builtin id) g) (hg : Gl X x) (hm : X.mg x = none) (hv : bootBuiltins x = some (.builtin id)) (ha : SA X c W (e :: es) wl)
    (hn : x ≠ "__name__" := by decide) (hdb : (x == ("__debug__" : Str)) = false := by decide) (hst : starEach (e :: es) X.env = (false, eval e X.env) :: starEach es X.env := by rfl) (hpl : (backTo pos (starEach es X.env)).any (·.1) = false := by rfl) :
    SE X c W (.Call (.Name x p) (e :: es) [] pos) (wBlt g wl) :=
  ⟨PE.imp (pe_callB hc.ok hg hm hv ha.pa hn hdb hst hpl) fun σ H Q h => blt_core hc.mo ha.mo h, .blt hc.mo ha.mo⟩
theorem se_callTy {x : Str} {p : Pos} {T : String} {g : GL} {wl : AW} (hc : VRL X (.type T) g) (hg : Gl X x) (hm : X.mg x = none) (hv : bootBuiltins x = some (.type T)) (ha : SA X c W (e :: es) wl)
    (hn : x ≠ "__name__" := by decide) (hdb : (x == ("__debug__" : Str)) = false := by decide) (hst : starEach (e :: es) X.env = (false, eval e X.env) :: starEach es X.env := by rfl) (hpl : (backTo pos (starEach es X.env)).any (·.1) = false := by rfl) :
    SE X c W (.Call (.Name x p) (e :: es) [] pos) (wBlt g wl) :=
  ⟨PE.imp (pe_callTy hc.ok hg hm hv ha.pa hn hdb hst hpl) fun σ H Q h => blt_core hc.mo ha.mo h, .blt hc.mo ha.mo⟩
/-- displays -/
def gTupD : GL := fun ds Q => ds.length ≤ sizeLine ∧ Q (.fz (.tup ds))
def gLstD : GL := fun ds Q => ds.length ≤ sizeLine ∧ Q (.ow (.lst ds))
theorem MonoL.tupD : MonoL gTupD := ⟨fun h ⟨a, b⟩ => ⟨a, h _ b⟩⟩
theorem MonoL.lstD : MonoL gLstD := ⟨fun h ⟨a, b⟩ => ⟨a, h _ b⟩⟩
end
end LV


set_option Elab.async false
set_option linter.all false
set_option maxRecDepth 100000
namespace LV
open PySem PySem.Spec L2

/-! ### using a value as data -/
def frz1 (env : En) : Rv → Option (D × En)
  | .fz d => some (d, env)
  | .ow o => none
  | .sl i => match env[i]? with
    | some (some (.ow o)) => some (o.d, env.set i (some (.fz o.d)))
    | some (some (.fz d)) => some (d, env)
    | _ => none
def frzL (env : En) : List Rv → Option (List D × En)
  | [] => some ([], env)
  | r :: rs => match frz1 env r with
    | none => none
    | some (d, e1) => match frzL e1 rs with
      | none => none
      | some (ds, e2) => some (d :: ds, e2)
section
variable {M : Md} {c : Ct} {F H : Hp} {σ : St} {env env' : En}
theorem frz1_ok {v : V} {r : Rv} {d : D} (R : Rel M c F H σ env) (h : OpOk M F σ v r) (e : frz1 env r = some (d, env')) :
    ∃ F', Rel M c F' H σ env' ∧ Evo (Own σ env) (Own σ env') F H F' H ∧ Rep M F' v d := by
  cases r with
  | fz d' => cases e; exact ⟨F, R, Evo.refl, h⟩
  | ow o => cases e
  | sl i =>
    have h' : σ[i]? = some (some v) := h
    cases he : env[i]? with
    | none => simp only [frz1, he] at e; cases e
    | some x =>
      cases x with
      | none => simp only [frz1, he] at e; cases e
      | some y =>
        cases y with
        | ex _ _ _ _ => simp only [frz1, he] at e; cases e
        | fz d' =>
          simp only [frz1, he] at e
          cases e
          obtain ⟨u, h1, h2⟩ := R.fz i _ he
          rw [h'] at h1; cases h1
          exact ⟨F, R, Evo.refl, h2⟩
        | ow o =>
          simp only [frz1, he] at e
          cases e
          obtain ⟨p, F', h1, R', r, ev, _⟩ := R.freeze he
          rw [h'] at h1; cases h1
          exact ⟨F', R', ev, r⟩
theorem frzL_ok : ∀ {vs : List V} {rs : List Rv} {ds : List D} {F : Hp} {env env' : En}, Rel M c F H σ env → OpsOk M F σ vs rs → frzL env rs = some (ds, env') →
    ∃ F', Rel M c F' H σ env' ∧ Evo (Own σ env) (Own σ env') F H F' H ∧ RepL M F' vs ds
  | [], [], _, F, env, _, R, _, e => by cases e; exact ⟨F, R, Evo.refl, .nil⟩
  | v :: vs, r :: rs, ds, F, env, env', R, ⟨h, t⟩, e => by
    unfold frzL at e
    cases e1 : frz1 env r with
    | none => rw [e1] at e; cases e
    | some p =>
      obtain ⟨d, en1⟩ := p
      rw [e1] at e
      cases e2 : frzL en1 rs with
      | none => simp only [e2] at e; cases e
      | some q =>
        obtain ⟨ds', en2⟩ := q
        simp only [e2] at e
        cases e
        obtain ⟨F1, R1, ev1, r1⟩ := frz1_ok R h e1
        obtain ⟨F2, R2, ev2, r2⟩ := frzL_ok R1 (t.same ev1.fs) e2
        exact ⟨F2, R2, ev1.trans ev2, .cons (r1.same ev2.fs) r2⟩
  | [], _ :: _, _, _, _, _, _, h, _ => h.elim
  | _ :: _, [], _, _, _, _, _, h, _ => h.elim
end

section
variable {X : Cx} {c : Ct} {W : WX} {e a b : Expr} {w wa wb : EW} {wl : AW} {pos : Pos} {es : List Expr}
/-! ### displays -/
def wTup (wl : AW) : EW := fun env Q E => wl env (fun rs e => ∃ ds e', frzL e rs = some (ds, e') ∧ ds.length ≤ sizeLine ∧ Q (.fz (.tup ds)) e') E
def wLst (wl : AW) : EW := fun env Q E => wl env (fun rs e => ∃ ds e', frzL e rs = some (ds, e') ∧ ds.length ≤ sizeLine ∧ Q (.ow (.lst ds)) e') E
theorem Mono.tup (m : MonoA wl) : Mono (wTup wl) := ⟨fun hQ hE h => m.mo (fun rs e ⟨ds, e', l, z, q⟩ => ⟨ds, e', l, z, hQ _ _ q⟩) hE h⟩
theorem Mono.lst (m : MonoA wl) : Mono (wLst wl) := ⟨fun hQ hE h => m.mo (fun rs e ⟨ds, e', l, z, q⟩ => ⟨ds, e', l, z, hQ _ _ q⟩) hE h⟩
theorem Rel.notOwn {M : Md} {F H : Hp} {σ : St} {env : En} (R : Rel M c F H σ env) {p : Addr} (hp : H p = none) : ¬ Own σ env p := fun z => by
  obtain ⟨u, hu⟩ := R.own_some z
  rw [hp] at hu; cases hu
theorem se_tup {k : Nat} (h : SA X c W es wl) : SE X c W (.Tuple es k pos) (wTup wl) := by
  refine ⟨PE.imp (pe_tup h.pa) fun σ H Q q => ?_, .tup h.mo⟩
  obtain ⟨F, env, R, q⟩ := q
  refine ⟨F, env, R, h.mo.mo (fun rs e ⟨ds, e', l, z, q⟩ => ?_) (fun _ _ z => z) q⟩
  intro vs F1 H1 R1 ev1 ok1
  obtain ⟨F2, R2, ev2, rl⟩ := frzL_ok R1 ok1 l
  refine ⟨by rw [rl.length]; exact z, fun p hp => ?_⟩
  have s := R2.sub
  have ev := (Evo.newF (o := .tup vs) hp (s.free hp))
  exact q _ _ _ (R2.evo ev (same_newF s hp)) ((ev1.trans ev2).trans ev.nob) (.tup (.inl (.inl upd_same)) (rl.same ev.fs))
theorem se_lst (h : SA X c W es wl) : SE X c W (.List es pos) (wLst wl) := by
  refine ⟨PE.imp (pe_lst h.pa) fun σ H Q q => ?_, .lst h.mo⟩
  obtain ⟨F, env, R, q⟩ := q
  refine ⟨F, env, R, h.mo.mo (fun rs e ⟨ds, e', l, z, q⟩ => ?_) (fun _ _ z => z) q⟩
  intro vs F1 H1 R1 ev1 ok1
  obtain ⟨F2, R2, ev2, rl⟩ := frzL_ok R1 ok1 l
  refine ⟨by rw [rl.length]; exact z, fun p hp => ?_⟩
  have s := R2.sub
  have ev : Evo Nob Nob F2 H1 F2 (upd H1 p (.lst vs)) := Evo.newO hp
  exact q _ _ _ (R2.evo ev (same_newO s hp)) ((ev1.trans ev2).trans ev.nob) ⟨p, rfl, s.free hp, ⟨vs, upd_same, rl⟩, R2.notOwn hp, (ev1.trans ev2).noneOf hp⟩

/-! ### a[i] -/
structure VIx (X : Cx) (g : G2) : Prop where
  ok : IxR X (fun x y H Qv => ∃ F da db, Same F H ∧ Vw (mdX X) F H x da ∧ Vw (mdX X) F H y db ∧ g da db (NPost (mdX X) F H Qv))
  mo : Mono2 g
theorem se_ix {g : G2} (ho : VIx X g) (ha : SE X c W a wa) (hb : SE X c W b wb) (hs : PlainIx b := by exact fun _ _ => rfl) : SE X c W (.Subscript a b pos) (wOp2 g wa wb) := by
  refine ⟨PE.imp (pe_ix ho.ok ha.pe hb.pe hs) fun σ H Q h => ?_, .op2 ho.mo ha.mo hb.mo⟩
  obtain ⟨F, env, R, h⟩ := h
  refine opd2 ha.mo hb.mo R h fun ra rb env' x y F' H' R' e o1 o2 q => ?_
  obtain ⟨da, db, l1, l2, q⟩ := q
  exact ⟨F', da, db, R'.sub, o1.vw R' l1, o2.vw R' l2, ho.mo.mo (fun r z => NPost.of R' (EPost.step e z)) q⟩

/-! ### slices -/
abbrev OW := En → (Option Int → En → Prop) → XW → Prop
structure MonoO (w : OW) : Prop where
  mo : ∀ {env : En} {Q Q' : Option Int → En → Prop} {E E' : XW}, (∀ r e, Q r e → Q' r e) → (∀ x e, E x e → E' x e) → w env Q E → w env Q' E'
def ORd (M : Md) (c : Ct) (W : WX) (w : OW) : TO := fun σ H Q => ∃ F env, Rel M c F H σ env ∧ w env (fun o env' => ∀ F' H', Rel M c F' H' σ env' → Evo (Own σ env) (Own σ env') F H F' H' → Q o H') (XPost M c W F H σ env)
structure SO (X : Cx) (c : Ct) (W : WX) (e : Option Expr) (w : OW) : Prop where
  po : PO X e (ORd (mdX X) c W w)
  mo : MonoO w
theorem PO.imp {X : Cx} {e : Option Expr} {t t' : TO} (h : PO X e t) (i : ∀ σ H Q, t' σ H Q → t σ H Q) : PO X e t' := ⟨fun pins s σ H Q I q => h.run pins s σ H Q I (i σ H Q q)⟩
def wNoP : OW := fun env Q _ => Q none env
def wPt (w : EW) : OW := fun env Q E => w env (fun r e => ∃ i, r = .fz (.int i) ∧ Q (some i) e) E
theorem so_none : SO X c W none wNoP := ⟨PO.imp po_none fun σ H Q h => by
  obtain ⟨F, env, R, h⟩ := h
  exact h F H R Evo.refl, ⟨fun hQ _ h => hQ _ _ h⟩⟩
theorem so_some (h : SE X c W e w) : SO X c W (some e) (wPt w) := by
  refine ⟨PO.imp (po_some h.pe) fun σ H Q q => ?_, ⟨fun hQ hE q => h.mo.mo (fun r e ⟨i, e1, q⟩ => ⟨i, e1, hQ _ _ q⟩) hE q⟩⟩
  obtain ⟨F, env, R, q⟩ := q
  refine ⟨F, env, R, h.mo.mo (fun r e1 ⟨i, ei, q⟩ => ?_) (fun _ _ z => z) q⟩
  subst ei
  intro v F' H' R' ev ok
  cases (show Rep (mdX X) F' v (.int i) from ok)
  exact ⟨i, rfl, q F' H' R' ev⟩
def cutD (ds : List D) (lo hi : Option Int) : List D := (ds.drop (HT.sIx ds.length 0 lo)).take (HT.sIx ds.length ds.length hi - HT.sIx ds.length 0 lo)
theorem RepL.cut {M : Md} {F : Hp} {xs : List V} {ds : List D} (r : RepL M F xs ds) (lo hi : Option Int) : RepL M F (cutV xs lo hi) (cutD ds lo hi) := by
  unfold cutV cutD
  rw [r.length]
  exact (r.drop _).take _
def gSl (d : D) (lo hi : Option Int) (Q : Rv → Prop) : Prop :=
  match d with
  | .tup ds => Q (.fz (.tup (cutD ds lo hi)))
  | .lst ds => Q (.ow (.lst (cutD ds lo hi)))
  | .scr ns => Q (.ow (.lst (cutD (ns.map D.int) lo hi)))
  | .str z => z.length ≤ sizeLine ∧ Q (.fz (.str (cutS z lo hi)))
  | _ => False
theorem gSl_mono {d : D} {lo hi : Option Int} {Q Q' : Rv → Prop} (h : ∀ r, Q r → Q' r) (q : gSl d lo hi Q) : gSl d lo hi Q' := by
  cases d with
  | tup ds => exact h _ q
  | lst ds => exact h _ q
  | scr ds => exact h _ q
  | str z => exact ⟨q.1, h _ q.2⟩
  | _ => exact q
theorem cut_ints (ns : List Int) (lo hi : Option Int) : RepL M F (cutV (ns.map V.int) lo hi) (cutD (ns.map D.int) lo hi) := RepL.cut (RepL.of_ints ns) lo hi
theorem cutV_whole {xs : List V} {lo hi : Option Int} (h : HT.sIx xs.length 0 lo = 0 ∧ HT.sIx xs.length xs.length hi = xs.length) : cutV xs lo hi = xs := by
  unfold cutV
  rw [h.1, h.2]
  simp
theorem sl_any : SlR X (fun x lo hi H Qv => ∃ F d, Same F H ∧ Vw (mdX X) F H x d ∧ gSl d lo hi (NPost (mdX X) F H Qv)) := by
  intro pins s σ H x v vl vu lo hi sl Q I rx hs pl pu h
  obtain ⟨F, d, sm, vw, q⟩ := h
  cases d with
  | tup ds =>
    obtain ⟨a, xs, rfl, hx, r⟩ := vw
    refine sl_tupA pins s σ H _ v vl vu lo hi sl Q I rx hs pl pu ⟨a, xs, rfl, Same.sqT sm hx, fun hw => ?_, fun hw p hp => NPost.newT q sm (r.cut lo hi) hp⟩
    have e : cutD ds lo hi = ds := by
      have h' : HT.sIx ds.length 0 lo = 0 ∧ HT.sIx ds.length ds.length hi = ds.length := by rw [← r.length]; exact hw
      unfold cutD
      rw [h'.1, h'.2]
      simp
    have q' : NPost (mdX X) F H Q (.fz (.tup ds)) := by rw [← e]; exact q
    exact NPost.here q' sm (.tup hx r)
  | lst ds =>
    obtain ⟨a, xs, rfl, hx, r⟩ := vw
    exact sl_list pins s σ H _ v vl vu lo hi sl Q I rx hs pl pu ⟨a, xs, rfl, .inl (.inl hx), fun p hp => NPost.newL q sm (r.cut lo hi) hp⟩
  | scr ns =>
    obtain ⟨a, rfl, hx⟩ := vw
    exact sl_list pins s σ H _ v vl vu lo hi sl Q I rx hs pl pu ⟨a, _, rfl, hx, fun p hp => NPost.newL q sm (cut_ints ns lo hi) hp⟩
  | str z =>
    cases (show x = .str z from vw)
    exact sl_str pins s σ H _ v vl vu lo hi sl Q I rx hs pl pu ⟨z, rfl, q.1, NPost.here q.2 sm (.str _)⟩
  | _ => exact q.elim
def wSl (w : EW) (wl wh : OW) : EW := fun env Q E => wFz w env (fun r e1 => wl e1 (fun lo e2 => wh e2 (fun hi e3 => ∃ d, look e3 r = some d ∧ gSl d lo hi (fun r => Q r e3)) E) E) E
theorem se_sl {lo hi : Option Expr} {ul uh : OW} {p2 : Pos} (h : SE X c W e w) (hl : SO X c W lo ul) (hh : SO X c W hi uh) : SE X c W (.Subscript e (.Slice lo hi none p2) pos) (wSl w ul uh) := by
  refine ⟨PE.imp (pe_slice sl_any h.pe hl.po hh.po) fun σ H Q q => ?_, ⟨fun hQ hE q => h.mo.fz.mo (fun r e q => hl.mo.mo (fun lo e q => hh.mo.mo (fun hi e ⟨d, l, q⟩ => ⟨d, l, gSl_mono (fun _ z => hQ _ _ z) q⟩) hE q) hE q) hE q⟩⟩
  obtain ⟨F, env, R, q⟩ := q
  refine opd h.mo R q fun r e1 v F1 H1 R1 ev1 ok1 q1 => ?_
  refine ⟨F1, e1, R1, hl.mo.mo (fun lo e2 q2 => ?_) (fun _ _ z => XPost.step ev1 z) q1⟩
  intro F2 H2 R2 ev2
  refine ⟨F2, e2, R2, hh.mo.mo (fun hi e3 q3 => ?_) (fun _ _ z => XPost.step (ev1.trans ev2) z) q2⟩
  intro F3 H3 R3 ev3
  obtain ⟨d, l, q3⟩ := q3
  exact ⟨F3, d, R3.sub, (ok1.same (ev2.fs.trans ev3.fs)).vw R3 l, gSl_mono (fun r z => NPost.of R3 (EPost.step ((ev1.trans ev2).trans ev3) z)) q3⟩

/-! ### calls of the program's own defs -/
/-- what a def keeps: arguments, what follows (the result, the arguments afterwards), what follows a raise -/
abbrev FSpec := List Val → (Rv → List Val → Prop) → (Xn → List Val → Prop) → Prop
structure MonoF (S : FSpec) : Prop where
  mo : ∀ {args : List Val} {Q Q' : Rv → List Val → Prop} {E E' : Xn → List Val → Prop}, (∀ r e, Q r e → Q' r e) → (∀ x e, E x e → E' x e) → S args Q E → S args Q' E'
def sV (vs : List V) : St := vs.map some
def eV (args : List Val) : En := args.map some
def toSp (M : Md) (S : FSpec) : Sp := fun vs H Q E => ∃ F args, Rel M ct0 F H (sV vs) (eV args) ∧ S args
  (fun r args' => ∀ v F' H', Rel M ct0 F' H' (sV vs) (eV args') → Evo (Own (sV vs) (eV args)) (Own (sV vs) (eV args')) F H F' H' → RvOk M F' H' H (sV vs) (eV args') v r → Q v H')
  (fun x args' => ∀ cl d F' H', Rel M ct0 F' H' (sV vs) (eV args') → Evo (Own (sV vs) (eV args)) (Own (sV vs) (eV args')) F H F' H' → XOk M F' x cl d → E cl d H')
/-- an argument as it is handed over -/
def valOf (env : En) : Rv → Option Val
  | .fz d => some (.fz d)
  | .ow _ => none
  | .sl i => match env[i]? with
    | some (some (.ow o)) => some (.ow o)
    | some (some (.fz d)) => some (.fz d)
    | _ => none
def valL (env : En) : List Rv → Option (List Val)
  | [] => some []
  | r :: rs => match valOf env r, valL env rs with
    | some a, some as => some (a :: as)
    | _, _ => none
/-- the slots that are handed over, each once -/
def slotsOf : List Rv → List Nat
  | [] => []
  | .sl i :: rs => i :: slotsOf rs
  | _ :: rs => slotsOf rs
def putL (env : En) : List Rv → List Val → En
  | .sl i :: rs, a :: as => (putL env rs as).set i (some a)
  | _ :: rs, _ :: as => putL env rs as
  | _, _ => env
/-- behind a call: data has stayed data -/
def backOk : List Val → List Val → Bool
  | [], [] => true
  | .fz _ :: as, .fz _ :: bs => backOk as bs
  | .ow _ :: as, .fz _ :: bs => backOk as bs
  | .ow _ :: as, .ow _ :: bs => backOk as bs
  | _, _ => false
theorem backOk_len : ∀ {as bs : List Val}, backOk as bs = true → bs.length = as.length
  | [], [], _ => rfl
  | .fz _ :: as, .fz _ :: bs, h => by rw [List.length_cons, List.length_cons, backOk_len (as := as) (bs := bs) h]
  | .ow _ :: as, .fz _ :: bs, h => by rw [List.length_cons, List.length_cons, backOk_len (as := as) (bs := bs) h]
  | .ow _ :: as, .ow _ :: bs, h => by rw [List.length_cons, List.length_cons, backOk_len (as := as) (bs := bs) h]
theorem backOk_ow : ∀ {as bs : List Val} {k : Nat} {a : Val} {o : O}, backOk as bs = true → as[k]? = some a → bs[k]? = some (.ow o) → ∃ o', a = .ow o'
  | [], [], k, a, o, _, e, _ => by simp at e
  | .fz _ :: as, .fz _ :: bs, 0, a, o, h, _, e => by simp at e
  | .ow o' :: as, .fz _ :: bs, 0, a, o, h, _, e => by simp at e
  | .ow o' :: as, .ow _ :: bs, 0, a, o, h, e, _ => by simp at e; exact ⟨o', e.symm⟩
  | .fz _ :: as, .fz _ :: bs, k + 1, a, o, h, e, e' => backOk_ow (as := as) (bs := bs) (k := k) h (by simpa using e) (by simpa using e')
  | .ow _ :: as, .fz _ :: bs, k + 1, a, o, h, e, e' => backOk_ow (as := as) (bs := bs) (k := k) h (by simpa using e) (by simpa using e')
  | .ow _ :: as, .ow _ :: bs, k + 1, a, o, h, e, e' => backOk_ow (as := as) (bs := bs) (k := k) h (by simpa using e) (by simpa using e')
def wCall (S : FSpec) (wl : AW) : EW := fun env Q E => wl env (fun rs e => ∃ args, valL e rs = some args ∧ (slotsOf rs).Nodup ∧ S args (fun r args' => backOk args args' = true ∧ (∀ i, r ≠ .sl i) ∧ Q r (putL e rs args')) (fun x args' => backOk args args' = true ∧ E x (putL e rs args'))) E
theorem Mono.call {S : FSpec} (mS : MonoF S) (ml : MonoA wl) : Mono (wCall S wl) := ⟨fun hQ hE h => ml.mo (fun rs e ⟨args, l, n, q⟩ => ⟨args, l, n, mS.mo (fun _ _ ⟨a, n, z⟩ => ⟨a, n, hQ _ _ z⟩) (fun _ _ ⟨a, z⟩ => ⟨a, hE _ _ z⟩) q⟩) hE h⟩
end
end LV


set_option Elab.async false
set_option linter.all false
set_option maxRecDepth 100000
namespace LV
open PySem PySem.Spec L2
section
variable {M : Md} {c : Ct} {F H F' H' : Hp} {σ : St} {env : En} {vs : List V} {rs : List Rv} {args args' : List Val}
theorem valL_len : ∀ {rs : List Rv} {args : List Val}, valL env rs = some args → args.length = rs.length
  | [], _, h => by cases h; rfl
  | r :: rs, args, h => by
    unfold valL at h
    cases h1 : valOf env r with
    | none => rw [h1] at h; cases h
    | some a =>
      cases h2 : valL env rs with
      | none => rw [h1, h2] at h; cases h
      | some as => rw [h1, h2] at h; cases h; rw [List.length_cons, List.length_cons, valL_len h2]
theorem valL_get : ∀ {rs : List Rv} {args : List Val} {k : Nat} {a : Val}, valL env rs = some args → args[k]? = some a → ∃ r, rs[k]? = some r ∧ valOf env r = some a
  | [], _, k, a, h, e => by cases h; simp at e
  | r :: rs, args, k, a, h, e => by
    unfold valL at h
    cases h1 : valOf env r with
    | none => rw [h1] at h; cases h
    | some b =>
      cases h2 : valL env rs with
      | none => rw [h1, h2] at h; cases h
      | some as =>
        rw [h1, h2] at h; cases h
        cases k with
        | zero => simp at e; subst e; exact ⟨r, rfl, h1⟩
        | succ k => exact valL_get (k := k) h2 (by simpa using e)
theorem ops_len : ∀ {vs : List V} {rs : List Rv}, OpsOk M F σ vs rs → vs.length = rs.length
  | [], [], _ => rfl
  | _ :: _, _ :: _, ⟨_, t⟩ => by rw [List.length_cons, List.length_cons, ops_len t]
  | [], _ :: _, h => h.elim
  | _ :: _, [], h => h.elim
theorem ops_get : ∀ {vs : List V} {rs : List Rv} {k : Nat} {r : Rv}, OpsOk M F σ vs rs → rs[k]? = some r → ∃ v, vs[k]? = some v ∧ OpOk M F σ v r
  | [], [], k, r, _, e => by simp at e
  | v :: _, _ :: _, 0, r, ⟨h, _⟩, e => by simp at e; subst e; exact ⟨v, rfl, h⟩
  | _ :: _, _ :: _, k + 1, r, ⟨_, t⟩, e => ops_get (k := k) t (by simpa using e)
  | [], _ :: _, _, _, h, _ => h.elim
  | _ :: _, [], _, _, h, _ => h.elim
theorem mem_slots : ∀ {rs : List Rv} {k i : Nat}, rs[k]? = some (.sl i) → i ∈ slotsOf rs
  | [], k, i, e => by simp at e
  | r :: rs, 0, i, e => by simp at e; subst e; exact List.mem_cons_self
  | r :: rs, k + 1, i, e => by
    have := mem_slots (rs := rs) (k := k) (i := i) (by simpa using e)
    cases r with
    | fz _ => exact this
    | ow _ => exact this
    | sl j => exact List.mem_cons_of_mem _ this
theorem slots_inj : ∀ {rs : List Rv} {j k i : Nat}, (slotsOf rs).Nodup → rs[j]? = some (.sl i) → rs[k]? = some (.sl i) → j = k
  | [], j, k, i, _, e, _ => by simp at e
  | r :: rs, 0, 0, i, n, e, e' => rfl
  | r :: rs, 0, k + 1, i, n, e, e' => by
    simp at e; subst e
    have h1 := mem_slots (rs := rs) (k := k) (i := i) (by simpa using e')
    exact absurd h1 (List.nodup_cons.mp n).1
  | r :: rs, j + 1, 0, i, n, e, e' => by
    simp at e'; subst e'
    have h1 := mem_slots (rs := rs) (k := j) (i := i) (by simpa using e)
    exact absurd h1 (List.nodup_cons.mp n).1
  | r :: rs, j + 1, k + 1, i, n, e, e' => by
    have n' : (slotsOf rs).Nodup := by
      cases r with
      | fz _ => exact n
      | ow _ => exact n
      | sl _ => exact (List.nodup_cons.mp n).2
    rw [slots_inj (rs := rs) (j := j) (k := k) n' (by simpa using e) (by simpa using e')]
theorem putL_len : ∀ {rs : List Rv} {as : List Val}, (putL env rs as).length = env.length
  | [], _ => by unfold putL; rfl
  | .fz _ :: rs, [] => rfl
  | .ow _ :: rs, [] => rfl
  | .sl _ :: rs, [] => rfl
  | .fz _ :: rs, a :: as => putL_len (rs := rs) (as := as)
  | .ow _ :: rs, a :: as => putL_len (rs := rs) (as := as)
  | .sl _ :: rs, a :: as => by
    show ((putL env rs as).set _ _).length = _
    rw [List.length_set]; exact putL_len (rs := rs) (as := as)
theorem putL_in : ∀ {rs : List Rv} {as : List Val} {k i : Nat} {a : Val}, (slotsOf rs).Nodup → rs[k]? = some (.sl i) → as[k]? = some a → i < env.length → (putL env rs as)[i]? = some (some a)
  | [], _, k, i, a, _, e, _, _ => by simp at e
  | r :: rs, [], k, i, a, _, _, e, _ => by simp at e
  | r :: rs, b :: as, 0, i, a, n, e, e', hl => by
    simp at e e'; subst e; subst e'
    show ((putL env rs as).set i (some b))[i]? = _
    rw [List.getElem?_set_self (by rw [putL_len]; exact hl)]
  | r :: rs, b :: as, k + 1, i, a, n, e, e', hl => by
    have e1 : rs[k]? = some (.sl i) := by simpa using e
    have e2 : as[k]? = some a := by simpa using e'
    cases r with
    | fz _ => exact putL_in (rs := rs) (as := as) (k := k) n e1 e2 hl
    | ow _ => exact putL_in (rs := rs) (as := as) (k := k) n e1 e2 hl
    | sl j =>
      have hj : j ≠ i := fun z => (List.nodup_cons.mp n).1 (z ▸ mem_slots e1)
      show ((putL env rs as).set j (some b))[i]? = _
      rw [List.getElem?_set_ne hj]
      exact putL_in (rs := rs) (as := as) (k := k) (List.nodup_cons.mp n).2 e1 e2 hl
theorem putL_out : ∀ {rs : List Rv} {as : List Val} {i : Nat}, i ∉ slotsOf rs → (putL env rs as)[i]? = env[i]?
  | [], _, _, _ => by unfold putL; rfl
  | .fz _ :: rs, [], _, _ => rfl
  | .ow _ :: rs, [], _, _ => rfl
  | .sl _ :: rs, [], _, _ => rfl
  | .fz _ :: rs, a :: as, i, h => putL_out (rs := rs) (as := as) (i := i) h
  | .ow _ :: rs, a :: as, i, h => putL_out (rs := rs) (as := as) (i := i) h
  | .sl j :: rs, a :: as, i, h => by
    have hj : j ≠ i := fun z => h (z ▸ List.mem_cons_self)
    show ((putL env rs as).set j (some a))[i]? = _
    rw [List.getElem?_set_ne hj]
    exact putL_out (rs := rs) (as := as) (i := i) fun z => h (List.mem_cons_of_mem _ z)
theorem slots_mem : ∀ {rs : List Rv} {i : Nat}, i ∈ slotsOf rs → ∃ k : Nat, rs[k]? = some (Rv.sl i)
  | [], i, h => by cases h
  | .fz _ :: rs, i, h => by obtain ⟨k, e⟩ := slots_mem (rs := rs) h; exact ⟨k + 1, by simpa using e⟩
  | .ow _ :: rs, i, h => by obtain ⟨k, e⟩ := slots_mem (rs := rs) h; exact ⟨k + 1, by simpa using e⟩
  | .sl j :: rs, i, h => by
    rcases List.mem_cons.mp h with e | h
    · exact ⟨0, by rw [e]; rfl⟩
    · obtain ⟨k, e⟩ := slots_mem (rs := rs) h; exact ⟨k + 1, by simpa using e⟩
theorem eV_get {k : Nat} {a : Val} : (eV args)[k]? = some (some a) ↔ args[k]? = some a := by
  unfold eV
  rw [List.getElem?_map]
  cases args[k]? <;> simp
theorem sV_get {k : Nat} {v : V} : (sV vs)[k]? = some (some v) ↔ vs[k]? = some v := by
  unfold sV
  rw [List.getElem?_map]
  cases vs[k]? <;> simp
theorem valOf_ow {r : Rv} {o : O} (h : valOf env r = some (.ow o)) : ∃ i, r = .sl i ∧ env[i]? = some (some (.ow o)) := by
  cases r with
  | fz d => cases h
  | ow o => cases h
  | sl i =>
    refine ⟨i, rfl, ?_⟩
    cases he : env[i]? with
    | none => simp only [valOf, he] at h; cases h
    | some x =>
      cases x with
      | none => simp only [valOf, he] at h; cases h
      | some y =>
        cases y with
        | ex _ _ _ _ => simp only [valOf, he] at h; cases h
        | fz d' => simp only [valOf, he] at h; cases h
        | ow o' => simp only [valOf, he] at h; cases h; rfl
theorem valOf_ex {r : Rv} {a : Addr} {C : Str} {ks : List Str} {ds : List D} (h : valOf env r = some (.ex a C ks ds)) : False := by
  cases r with
  | fz d => cases h
  | ow o => cases h
  | sl i =>
    cases he : env[i]? with
    | none => simp only [valOf, he] at h; cases h
    | some x =>
      cases x with
      | none => simp only [valOf, he] at h; cases h
      | some y => cases y <;> simp only [valOf, he] at h <;> cases h
theorem valOf_fz {r : Rv} {d : D} {v : V} (R : Rel M c F H σ env) (o : OpOk M F σ v r) (h : valOf env r = some (.fz d)) : Rep M F v d := by
  cases r with
  | fz d => cases h; exact o
  | ow o => cases h
  | sl i =>
    have h' : σ[i]? = some (some v) := o
    cases he : env[i]? with
    | none => simp only [valOf, he] at h; cases h
    | some x =>
      cases x with
      | none => simp only [valOf, he] at h; cases h
      | some y =>
        cases y with
        | ex _ _ _ _ => simp only [valOf, he] at h; cases h
        | ow o' => simp only [valOf, he] at h; cases h
        | fz d' =>
          simp only [valOf, he] at h; cases h
          obtain ⟨u, h1, h2⟩ := R.fz i _ he
          rw [h'] at h1; cases h1; exact h2
/-- the callee's environment -/
theorem Rel.toArgs (R : Rel M c F H σ env) (ok : OpsOk M F σ vs rs) (l : valL env rs = some args) (nd : (slotsOf rs).Nodup) : Rel M ct0 F H (sV vs) (eV args) := by
  have at_ : ∀ {k : Nat} {a : Val}, args[k]? = some a → ∃ r v, rs[k]? = some r ∧ valOf env r = some a ∧ vs[k]? = some v ∧ OpOk M F σ v r := fun {k a} h => by
    obtain ⟨r, h1, h2⟩ := valL_get l h
    obtain ⟨v, h3, h4⟩ := ops_get ok h1
    exact ⟨r, v, h1, h2, h3, h4⟩
  refine ⟨R.sub, ?_, fun k d h => ?_, fun k o h => ?_, fun k a C ks ds h => ?_, fun j k o u p h1 h2 h3 h4 => ?_, fun _ h => (nomatch h), fun _ _ h => (nomatch h), fun _ _ _ _ _ _ => rfl⟩
  · unfold eV sV
    rw [List.length_map, List.length_map, valL_len l, ops_len ok]
  · obtain ⟨r, v, h1, h2, h3, h4⟩ := at_ (eV_get.mp h)
    exact ⟨v, sV_get.mpr h3, valOf_fz R h4 h2⟩
  · obtain ⟨r, v, h1, h2, h3, h4⟩ := at_ (eV_get.mp h)
    obtain ⟨i, rfl, h5⟩ := valOf_ow h2
    obtain ⟨p, h6, h7, h8⟩ := R.ow i o h5
    have h4' : σ[i]? = some (some v) := h4
    rw [h4'] at h6; cases h6
    exact ⟨p, sV_get.mpr h3, h7, h8⟩
  · obtain ⟨r, v, h5, h6, _⟩ := at_ (eV_get.mp h)
    exact (valOf_ex h6).elim
  · obtain ⟨r, v, a1, a2, a3, a4⟩ := at_ (eV_get.mp h1)
    obtain ⟨r', v', b1, b2, b3, b4⟩ := at_ (eV_get.mp h2)
    obtain ⟨i, rfl, a5⟩ := valOf_ow a2
    obtain ⟨i', rfl, b5⟩ := valOf_ow b2
    rw [sV_get.mp h3] at a3; cases a3
    rw [sV_get.mp h4] at b3; cases b3
    have e := R.sep i i' o u p a5 b5 a4 b4
    subst e
    exact slots_inj nd a1 b1
theorem own_args (ok : OpsOk M F σ vs rs) (l : valL env rs = some args) : ∀ b, Own (sV vs) (eV args) b → ∃ i o, i ∈ slotsOf rs ∧ env[i]? = some (some (.ow o)) ∧ σ[i]? = some (some (.ref b)) := fun b ⟨k, o, h1, h2⟩ => by
  obtain ⟨r, h3, h4⟩ := valL_get l (eV_get.mp h1)
  obtain ⟨v, h5, h6⟩ := ops_get ok h3
  obtain ⟨i, rfl, h7⟩ := valOf_ow h4
  rw [sV_get.mp h2] at h5; cases h5
  exact ⟨i, o, mem_slots h3, h7, h6⟩
/-- behind the call -/
theorem Rel.back (R : Rel M c F H σ env) (ok : OpsOk M F σ vs rs) (l : valL env rs = some args) (nd : (slotsOf rs).Nodup)
    (R' : Rel M ct0 F' H' (sV vs) (eV args')) (ev : Evo (Own (sV vs) (eV args)) (Own (sV vs) (eV args')) F H F' H') (bk : backOk args args' = true) :
    Rel M c F' H' σ (putL env rs args') ∧ Evo (Own σ env) (Own σ (putL env rs args')) F H F' H' ∧ (∀ b, Own σ (putL env rs args') b → Own (sV vs) (eV args') b ∨ Own σ env b) := by
  have lenA : args'.length = rs.length := (backOk_len bk).trans (valL_len l)
  have ownSub : ∀ b, Own (sV vs) (eV args) b → Own σ env b := fun b h => by
    obtain ⟨i, o, _, h2, h3⟩ := own_args ok l b h
    exact ⟨i, o, h2, h3⟩
  -- a slot among the arguments
  have inn : ∀ {i : Nat}, i ∈ slotsOf rs → ∃ (k : Nat) (v : V), rs[k]? = some (Rv.sl i) ∧ vs[k]? = some v ∧ σ[i]? = some (some v) ∧ ∃ a, args'[k]? = some a ∧ (putL env rs args')[i]? = some (some a) := fun {i} hi => by
    obtain ⟨k, hk⟩ := slots_mem hi
    obtain ⟨v, h1, h2⟩ := ops_get ok hk
    have h2' : σ[i]? = some (some v) := h2
    have hl : i < env.length := by rw [R.len]; exact (List.getElem?_eq_some_iff.mp h2').1
    have hk' : k < args'.length := by rw [lenA]; exact (List.getElem?_eq_some_iff.mp hk).1
    exact ⟨k, v, hk, h1, h2, args'[k], List.getElem?_eq_getElem hk', putL_in nd hk (List.getElem?_eq_getElem hk') hl⟩
  -- a slot that was not handed over and owns: kept
  have kept : ∀ {i : Nat} {o : O} {p : Addr}, i ∉ slotsOf rs → env[i]? = some (some (.ow o)) → σ[i]? = some (some (.ref p)) → (∀ u, H p = some u → H' p = some u) ∧ F' p = none ∧ ¬ Own (sV vs) (eV args') p := fun {i o p} hi h1 h2 => by
    obtain ⟨q, h3, h4, h5⟩ := R.ow i o h1
    rw [h2] at h3; cases h3
    obtain ⟨u, hu⟩ := h5.there
    have hn : ¬ Own (sV vs) (eV args) p := fun z => by
      obtain ⟨i', o', z1, z2, z3⟩ := own_args ok l p z
      have := R.sep i i' o o' p h1 z2 h2 z3
      exact hi (this ▸ z1)
    obtain ⟨q1, q2, q3⟩ := ev.keepTemp hu h4 hn
    exact ⟨fun u' hu' => by rw [hu] at hu'; cases hu'; exact q1, q2, q3⟩
  refine ⟨⟨R'.sub, by rw [putL_len]; exact R.len, fun i d h => ?_, fun i o h => ?_, fun i a C ks ds h => ?_, fun i j o u p h1 h2 h3 h4 => ?_, R.pin, fun b u h => ?_, fun i o p h hn hp => ?_⟩, ⟨ev.fs, fun b o h => ?_, fun b o h n => ev.hk b o h fun z => n (ownSub b z), ev.ht, fun b h => ?_⟩, fun b h => ?_⟩
  · by_cases hi : i ∈ slotsOf rs
    · obtain ⟨k, v, h1, h2, h3, a, h4, h5⟩ := inn hi
      rw [h5] at h; cases h
      obtain ⟨v', h6, h7⟩ := R'.fz k d (eV_get.mpr h4)
      rw [sV_get.mp h6] at h2; cases h2
      exact ⟨v, h3, h7⟩
    · rw [putL_out hi] at h
      obtain ⟨v, h1, h2⟩ := R.fz i d h
      exact ⟨v, h1, h2.same ev.fs⟩
  · by_cases hi : i ∈ slotsOf rs
    · obtain ⟨k, v, h1, h2, h3, a, h4, h5⟩ := inn hi
      rw [h5] at h; cases h
      obtain ⟨p, h6, h7, h8⟩ := R'.ow k o (eV_get.mpr h4)
      rw [sV_get.mp h6] at h2; cases h2
      exact ⟨p, h3, h7, h8⟩
    · rw [putL_out hi] at h
      obtain ⟨p, h1, h2, h3⟩ := R.ow i o h
      obtain ⟨q1, q2, q3⟩ := kept hi h h1
      obtain ⟨u, hu⟩ := h3.there
      exact ⟨p, h1, q2, h3.same ev.fs ((q1 u hu).trans hu.symm)⟩
  · by_cases hi : i ∈ slotsOf rs
    · obtain ⟨k, v, h1, h2, h3, b, h4, h5⟩ := inn hi
      rw [h5] at h; cases h
      obtain ⟨_, _, _, z, _⟩ := R'.ex k a C ks ds (eV_get.mpr h4)
      exact z.elim
    · rw [putL_out hi] at h
      exact (R.ex i a C ks ds h).imp id fun ⟨cl, d, h2, h3⟩ => ⟨cl, d, h2, h3.same ev.fs⟩
  · have one : ∀ {i : Nat} {o : O}, (putL env rs args')[i]? = some (some (.ow o)) → σ[i]? = some (some (.ref p)) → (i ∈ slotsOf rs ∧ ∃ k : Nat, rs[k]? = some (.sl i) ∧ (eV args')[k]? = some (some (.ow o)) ∧ (sV vs)[k]? = some (some (.ref p))) ∨ (i ∉ slotsOf rs ∧ env[i]? = some (some (.ow o))) := fun {i o} h h' => by
      by_cases hi : i ∈ slotsOf rs
      · obtain ⟨k, v, a1, a2, a3, a, a4, a5⟩ := inn hi
        rw [a5] at h; cases h
        rw [h'] at a3; cases a3
        exact .inl ⟨hi, k, a1, eV_get.mpr a4, sV_get.mpr a2⟩
      · rw [putL_out hi] at h
        exact .inr ⟨hi, h⟩
    rcases one h1 h3 with ⟨i1, k, k1, k2, k3⟩ | ⟨i1, k1⟩
    · rcases one h2 h4 with ⟨j1, m, m1, m2, m3⟩ | ⟨j1, m1⟩
      · have e := R'.sep k m o u p k2 m2 k3 m3
        subst e
        rw [k1] at m1; cases m1; rfl
      · exact absurd ⟨k, o, k2, k3⟩ (kept j1 m1 h4).2.2
    · rcases one h2 h4 with ⟨j1, m, m1, m2, m3⟩ | ⟨j1, m1⟩
      · exact absurd ⟨m, u, m2, m3⟩ (kept i1 k1 h3).2.2
      · exact R.sep i j o u p k1 m1 h3 h4
  · obtain ⟨u', hu⟩ := R.old b u h
    exact ev.ht b u' hu
  · by_cases hi : i ∈ slotsOf rs
    · obtain ⟨k, v, a1, a2, a3, a, a4, a5⟩ := inn hi
      rw [a5] at h; cases h
      rw [hp] at a3; cases a3
      have hk : k < args.length := by rw [valL_len l]; exact (List.getElem?_eq_some_iff.mp a1).1
      obtain ⟨o', eo⟩ := backOk_ow bk (List.getElem?_eq_getElem hk) a4
      obtain ⟨r, b1, b2⟩ := valL_get l (List.getElem?_eq_getElem hk)
      rw [a1] at b1; cases b1
      rw [eo] at b2
      obtain ⟨i', e', b3⟩ := valOf_ow b2
      cases e'
      exact R.fr i o' p b3 hn hp
    · rw [putL_out hi] at h
      exact R.fr i o p h hn hp
  · rcases ev.fn b o h with z | z | z
    · exact .inl z
    · exact .inr (.inl z)
    · exact .inr (.inr (ownSub b z))
  · obtain ⟨i, o, h1, h2⟩ := h
    by_cases hi : i ∈ slotsOf rs
    · obtain ⟨k, v, a1, a2, a3, a, a4, a5⟩ := inn hi
      rw [a5] at h1; cases h1
      rw [h2] at a3; cases a3
      rcases ev.aa b ⟨k, o, eV_get.mpr a4, sV_get.mpr a2⟩ with z | z
      · exact .inl (ownSub b z)
      · exact .inr z
    · rw [putL_out hi] at h1
      exact .inl ⟨i, o, h1, h2⟩
  · obtain ⟨i, o, h1, h2⟩ := h
    by_cases hi : i ∈ slotsOf rs
    · obtain ⟨k, v, a1, a2, a3, a, a4, a5⟩ := inn hi
      rw [a5] at h1; cases h1
      rw [h2] at a3; cases a3
      exact .inl ⟨k, o, eV_get.mpr a4, sV_get.mpr a2⟩
    · rw [putL_out hi] at h1
      exact .inr ⟨i, o, h1, h2⟩
end

section
variable {X : Cx} {c : Ct} {W : WX} {e : Expr} {es : List Expr} {wl : AW} {pos p : Pos} {x : Str} {k : Nat} {f : Addr} {fd : FuncData} {ps : List Str} {S : FSpec} {dvs : List V} {ds : List Value}
theorem call_core (mS : MonoF S) (ml : MonoA wl) {σ : St} {H : Hp} {Q : VK} (h : ERd (mdX X) c W (wCall S wl) σ H Q) :
    ARd (mdX X) c W wl σ H fun vs H1 => toSp (mdX X) S vs H1 Q (WE W σ) := by
  obtain ⟨F, env, R, h⟩ := h
  refine ⟨F, env, R, ml.mo (fun rs e1 ⟨args, l, nd, q⟩ => ?_) (fun _ _ z => z) h⟩
  intro vs F1 H1 R1 ev1 ok
  refine ⟨F1, args, R1.toArgs ok l nd, mS.mo (fun r args' ⟨ln, nsl, q⟩ => ?_) (fun xx args' ⟨ln, q⟩ => ?_) q⟩
  · intro v F' H' R' ev rv
    obtain ⟨R2, ev2, ow⟩ := R1.back ok l nd R' ev ln
    refine q v F' H' R2 (ev1.trans ev2) ?_
    cases r with
    | fz d => exact rv
    | sl i => exact absurd rfl (nsl i)
    | ow o =>
      obtain ⟨pp, a1, a2, a3, a4, a5⟩ := rv
      refine ⟨pp, a1, a2, a3, fun z => ?_, ev1.noneOf a5⟩
      rcases ow pp z with z | z
      · exact a4 z
      · obtain ⟨u, hu⟩ := R1.own_some z
        rw [a5] at hu; cases hu
  · intro cl d F' H' R' ev xo
    obtain ⟨R2, ev2, _⟩ := R1.back ok l nd R' ev ln
    exact q cl d F' H' R2 (ev1.trans ev2) xo
theorem se_call (F : FnOk X.prog X.w X.K X.mg X.base (L2.CX X.prog X.w) k f fd ps (toSp (mdX X) S)) (mS : MonoF S) (tk : Takes X W) (hr : Room k X.A) (hg : Gl X x) (hm : X.mg x = some (.ref f)) (hk : PySem.W.keepIn X.K (.ref f) = true) (hb : Binds X.K fd ps [])
    (ha : SA X c W (e :: es) wl) (hdb : (x == ("__debug__" : Str)) = false := by decide) (he : starEach (e :: es) X.env = (false, eval e X.env) :: starEach es X.env := by rfl) (hpl : (backTo pos (starEach es X.env)).any (·.1) = false := by rfl) :
    SE X c W (.Call (.Name x p) (e :: es) [] pos) (wCall S wl) :=
  ⟨PE.imp (pe_callS F hr hg hm hk hb (passAt tk) ha.pa hdb he hpl) fun σ H Q h => call_core mS ha.mo h, .call mS ha.mo⟩
end
end LV


set_option Elab.async false
set_option linter.all false
set_option maxRecDepth 100000
namespace LV
open PySem PySem.Spec L2

/-! ### statements -/
structure Ks where
  nx : En → Prop
  rt : Rv → En → Prop
  bk : En → Prop
  ct : En → Prop
  ex : XW
abbrev SW := Ks → En → Prop
structure KLe (K K' : Ks) : Prop where
  nx : ∀ e, K.nx e → K'.nx e
  rt : ∀ r e, K.rt r e → K'.rt r e
  bk : ∀ e, K.bk e → K'.bk e
  ct : ∀ e, K.ct e → K'.ct e
  ex : ∀ x e, K.ex x e → K'.ex x e
structure MonoS (w : SW) : Prop where
  mo : ∀ {K K' : Ks} {env : En}, KLe K K' → w K env → w K' env
section
variable (M : Md) (c : Ct) (W : WX) (D : Ends) (F H : Hp) (σ : St) (env : En)
def NxP (N : St → Hp → Prop) : En → Prop := fun env' => ∀ σ' F' H', Rel M c F' H' σ' env' → Evo (Own σ env) (Own σ' env') F H F' H' → N σ' H'
/-- a result, handed out of the def -/
def RetOk (M : Md) (c : Ct) (F' H' : Hp) (σ' : St) (env' : En) (v : V) : Rv → Prop
  | .fz d => Rep M F' v d
  | .ow o => ∃ p, v = .ref p ∧ F' p = none ∧ ORep M F' H' p o ∧ ¬ Own σ' env' p ∧ c.h₀ p = none
  | .sl _ => False
def RtP (N : VK) : Rv → En → Prop := fun r env' => ∀ v σ' F' H', Rel M c F' H' σ' env' → Evo (Own σ env) (Own σ' env') F H F' H' → RetOk M c F' H' σ' env' v r → N v H'
def XnP : XW := fun x env' => ∀ cl d σ' F' H', Rel M c F' H' σ' env' → Evo (Own σ env) (Own σ' env') F H F' H' → XOk M F' x cl d → W cl d σ' H'
def KsOf : Ks := ⟨NxP M c F H σ env D.nx, RtP M c F H σ env D.rt, NxP M c F H σ env D.bk, NxP M c F H σ env D.ct, XnP M c W F H σ env⟩
end
def SRd (M : Md) (c : Ct) (W : WX) (w : SW) : TS := fun D σ H => ∃ F env, Rel M c F H σ env ∧ w (KsOf M c W D F H σ env) env
structure SS (X : Cx) (c : Ct) (W : WX) (st : Stmt) (w : SW) : Prop where
  ps : PS X st (SRd (mdX X) c W w)
  mo : MonoS w
structure SSs (X : Cx) (c : Ct) (W : WX) (st : List Stmt) (w : SW) : Prop where
  ps : PSs X st (SRd (mdX X) c W w)
  mo : MonoS w
section
variable {M : Md} {c : Ct} {W : WX} {D : Ends} {F H F1 H1 : Hp} {σ σ1 : St} {env env1 : En}
theorem KsOf.step (e : Evo (Own σ env) (Own σ1 env1) F H F1 H1) : KLe (KsOf M c W D F H σ env) (KsOf M c W D F1 H1 σ1 env1) where
  nx := fun _ h σ' F' H' R' e' => h σ' F' H' R' (e.trans e')
  rt := fun _ _ h v σ' F' H' R' e' ok => h v σ' F' H' R' (e.trans e') ok
  bk := fun _ h σ' F' H' R' e' => h σ' F' H' R' (e.trans e')
  ct := fun _ h σ' F' H' R' e' => h σ' F' H' R' (e.trans e')
  ex := fun _ _ h cl d σ' F' H' R' e' ok => h cl d σ' F' H' R' (e.trans e') ok
theorem SRd.post {w : SW} (m : MonoS w) (R : Rel M c F1 H1 σ1 env1) (e : Evo (Own σ env) (Own σ1 env1) F H F1 H1) (h : w (KsOf M c W D F H σ env) env1) : SRd M c W w D σ1 H1 :=
  ⟨F1, env1, R, m.mo (KsOf.step e) h⟩
theorem XnP.xp {x : Xn} {env' : En} (h : XnP M c W F H σ env x env') : XPost M c W F H σ env x env' := fun cl d F' H' R e ok => h cl d σ F' H' R e ok
end
theorem KLe.refl (K : Ks) : KLe K K := ⟨fun _ h => h, fun _ _ h => h, fun _ h => h, fun _ h => h, fun _ _ h => h⟩
theorem KLe.withNx {K K' : Ks} (h : KLe K K') {n n' : En → Prop} (i : ∀ e, n e → n' e) : KLe { K with nx := n } { K' with nx := n' } := ⟨i, h.rt, h.bk, h.ct, h.ex⟩

section
variable {X : Cx} {c : Ct} {W : WX} {e a b : Expr} {w wa wb : EW} {u : TW} {s1 s2 : SW} {st : Stmt} {rest sa sb : List Stmt} {pos : Pos}
def wSkip : SW := fun K env => K.nx env
def wSeq (s1 s2 : SW) : SW := fun K env => s1 { K with nx := fun e => s2 K e } env
theorem MonoS.skip : MonoS wSkip := ⟨fun k h => k.nx _ h⟩
theorem MonoS.seq (m : MonoS s1) (n : MonoS s2) : MonoS (wSeq s1 s2) := ⟨fun k h => m.mo (k.withNx fun e q => n.mo k q) h⟩
theorem sss_nil : SSs X c W [] wSkip := ⟨PSs.imp pss_nil fun D σ H h => by
  obtain ⟨F, env, R, h⟩ := h
  exact h σ F H R Evo.refl, .skip⟩
theorem sss_one (h : SS X c W st s1) : SSs X c W [st] s1 := ⟨pss_one h.ps, h.mo⟩
theorem sss_cons (h : SS X c W st s1) (h2 : SSs X c W rest s2) : SSs X c W (st :: rest) (wSeq s1 s2) := by
  refine ⟨PSs.imp (pss_cons h.ps h2.ps) fun D σ H q => ?_, .seq h.mo h2.mo⟩
  obtain ⟨F, env, R, q⟩ := q
  refine ⟨F, env, R, h.mo.mo (K := { KsOf (mdX X) c W D F H σ env with nx := fun e => s2 (KsOf (mdX X) c W D F H σ env) e }) ⟨fun e q => ?_, fun _ _ z => z, fun _ z => z, fun _ z => z, fun _ _ z => z⟩ q⟩
  intro σ' F' H' R' ev
  exact SRd.post h2.mo R' ev q
theorem ss_pass : SS X c W (.Pass pos) wSkip := ⟨PS.imp ps_pass fun D σ H h => by
  obtain ⟨F, env, R, h⟩ := h
  exact h σ F H R Evo.refl, .skip⟩
theorem ss_doc {x j pos'} : SS X c W (.Expr (.Constant (.str x) j pos) pos') wSkip := ⟨PS.imp ps_doc fun D σ H h => by
  obtain ⟨F, env, R, h⟩ := h
  exact h σ F H R Evo.refl, .skip⟩
def wBrk : SW := fun K env => K.bk env
def wCnt : SW := fun K env => K.ct env
theorem ss_break : SS X c W (.Break pos) wBrk := ⟨PS.imp ps_break fun D σ H h => by
  obtain ⟨F, env, R, h⟩ := h
  exact h σ F H R Evo.refl, ⟨fun k h => k.bk _ h⟩⟩
theorem ss_continue : SS X c W (.Continue pos) wCnt := ⟨PS.imp ps_continue fun D σ H h => by
  obtain ⟨F, env, R, h⟩ := h
  exact h σ F H R Evo.refl, ⟨fun k h => k.ct _ h⟩⟩
def wExp (w : EW) : SW := fun K env => w env (fun _ e => K.nx e) K.ex
theorem ss_expr (h : SE X c W e w) (hs : swapsWith e none pos.line X.env = pure false := by rfl) : SS X c W (.Expr e pos) (wExp w) := by
  refine ⟨PS.imp (ps_expr h.pe hs) fun D σ H q => ?_, ⟨fun k q => h.mo.mo (fun _ _ z => k.nx _ z) (fun _ _ z => k.ex _ _ z) q⟩⟩
  obtain ⟨F, env, R, q⟩ := q
  exact ⟨F, env, R, h.mo.mo (fun r e z v F' H' R' ev _ => z σ F' H' R' ev) (fun _ _ z => z.xp) q⟩
def wIf (u : TW) (s1 s2 : SW) : SW := fun K env => u env (fun b e => if b = true then s1 K e else s2 K e) K.ex
theorem MonoS.iff (m : MonoT u) (m1 : MonoS s1) (m2 : MonoS s2) : MonoS (wIf u s1 s2) := ⟨fun k h => m.mo (fun b e q => by
  cases b with
  | true => exact m1.mo k q
  | false => exact m2.mo k q) (fun _ _ z => k.ex _ _ z) h⟩
theorem ss_if (h : ST X c W e u) (h1 : SSs X c W sa s1) (h2 : SSs X c W sb s2) : SS X c W (.If e sa sb pos) (wIf u s1 s2) := by
  refine ⟨PS.imp (ps_if h.pt h1.ps h2.ps) fun D σ H q => ?_, .iff h.mo h1.mo h2.mo⟩
  obtain ⟨F, env, R, q⟩ := q
  refine ⟨F, env, R, h.mo.mo (fun b e q => ?_) (fun _ _ z => z.xp) q⟩
  intro F' H' R' ev
  cases b with
  | true => exact SRd.post h1.mo R' ev q
  | false => exact SRd.post h2.mo R' ev q
/-- return e -/
def retR (pn : List Nat) (r : Rv) (env : En) (N : Rv → En → Prop) : Prop :=
  match r with
  | .fz d => N (.fz d) env
  | .ow o => N (.ow o) env
  | .sl i => match env[i]? with
    | some (some (.fz d)) => N (.fz d) env
    | some (some (.ow o)) => if i ∈ pn then N (.fz o.d) (env.set i (some (.fz o.d))) else N (.ow o) (env.set i none)
    | _ => False
def wRet (pn : List Nat) (w : EW) : SW := fun K env => w env (fun r e => retR pn r e K.rt) K.ex
theorem retR_mono {pn : List Nat} {r : Rv} {env : En} {N N' : Rv → En → Prop} (h : ∀ r e, N r e → N' r e) (q : retR pn r env N) : retR pn r env N' := by
  cases r with
  | fz d => exact h _ _ q
  | ow o => exact h _ _ q
  | sl i =>
    unfold retR at q ⊢
    dsimp only at q ⊢
    split at q
    · exact h _ _ q
    · split at q
      · rename_i hi; rw [if_pos hi]; exact h _ _ q
      · rename_i hi; rw [if_neg hi]; exact h _ _ q
    · exact q
theorem ss_ret (h : SE X c W e w) : SS X c W (.Return (some e) pos) (wRet c.pn w) := by
  refine ⟨PS.imp (ps_ret h.pe) fun D σ H q => ?_, ⟨fun k q => h.mo.mo (fun _ _ z => retR_mono (fun _ _ z => k.rt _ _ z) z) (fun _ _ z => k.ex _ _ z) q⟩⟩
  obtain ⟨F, env, R, q⟩ := q
  refine ⟨F, env, R, h.mo.mo (fun r e z => ?_) (fun _ _ z => z.xp) q⟩
  intro v F' H' R' ev ok
  cases r with
  | fz d => exact z v σ F' H' R' ev ok
  | ow o =>
    obtain ⟨p, a1, a2, a3, a4, a5⟩ := ok
    exact z v σ F' H' R' ev ⟨p, a1, a2, a3, a4, R.new a5⟩
  | sl i =>
    obtain ⟨h1, o, h2⟩ := ok
    simp only [retR, h2] at z
    obtain ⟨p, h3, h4, h5⟩ := R'.ow i o h2
    rw [h1] at h3; cases h3
    split at z
    · obtain ⟨q, F2, a1, a2, a3, a4, _⟩ := R'.freeze h2
      rw [h1] at a1; cases a1
      exact z _ σ F2 H' a2 (ev.trans a4) a3
    · rename_i hpn
      refine z _ σ F' H' (R'.forget i) (ev.trans (Evo.sub own_forget)) ⟨p, rfl, h4, h5, fun zz => ?_, R'.fr i o p h2 hpn h1⟩
      obtain ⟨j, o', z1, z2⟩ := zz
      by_cases eq : i = j
      · subst eq
        rw [List.getElem?_set_self (List.getElem?_eq_some_iff.mp h2).1] at z1
        cases z1
      · rw [List.getElem?_set_ne eq] at z1
        exact eq (R'.sep i j o o' p h2 z1 h1 z2)
def wRetN : SW := fun K env => K.rt (.fz .non) env
theorem ss_retN : SS X c W (.Return none pos) wRetN := ⟨PS.imp ps_retN fun D σ H h => by
  obtain ⟨F, env, R, h⟩ := h
  exact h .non σ F H R Evo.refl .non, ⟨fun k h => k.rt _ _ h⟩⟩

/-! ### name = e -/
def setR (i : Nat) (r : Rv) (env : En) (N : En → Prop) : Prop :=
  match r with
  | .fz d => N (env.set i (some (.fz d)))
  | .ow o => N (env.set i (some (.ow o)))
  | .sl j => if i = j then N env else ∃ d e2, frz1 env (.sl j) = some (d, e2) ∧ N (e2.set i (some (.fz d)))
theorem setR_mono {i : Nat} {r : Rv} {env : En} {N N' : En → Prop} (h : ∀ e, N e → N' e) (q : setR i r env N) : setR i r env N' := by
  cases r with
  | fz d => exact h _ q
  | ow o => exact h _ q
  | sl j =>
    unfold setR at q ⊢
    dsimp only at q ⊢
    split
    · rename_i e; rw [if_pos e] at q; exact h _ q
    · rename_i e; rw [if_neg e] at q
      obtain ⟨d, e2, a, q⟩ := q
      exact ⟨d, e2, a, h _ q⟩
def wSet (i : Nat) (w : EW) : SW := fun K env => w env (fun r e => setR i r e K.nx) K.ex
section
variable {M : Md} {F H F' H' : Hp} {σ : St} {env : En}
theorem Rel.setFz' (R : Rel M c F H σ env) {i : Nat} {v : V} {d : D} (hi : i ∉ c.pn) (r : Rep M F v d) : Rel M c F H (σ.set i (some v)) (env.set i (some (.fz d))) := by
  by_cases hl : i < σ.length
  · exact R.setFz hi hl r
  · rw [List.set_eq_of_length_le (by omega), List.set_eq_of_length_le (by rw [R.len]; omega)]
    exact R
theorem Rel.setOw' (R : Rel M c F H σ env) {i : Nat} {p : Addr} {o : O} (hi : i ∉ c.pn) (hp : F p = none) (r : ORep M F H p o) (hn : ¬ Own σ env p) (h0 : c.h₀ p = none) : Rel M c F H (σ.set i (some (.ref p))) (env.set i (some (.ow o))) := by
  by_cases hl : i < σ.length
  · exact R.setOw hi hl hp r hn h0
  · rw [List.set_eq_of_length_le (by omega), List.set_eq_of_length_le (by rw [R.len]; omega)]
    exact R
/-- what the store of r into slot i comes to -/
theorem setR_ok {Fs Hs : Hp} {σs : St} {es : En} {r : Rv} {v : V} {N : En → Prop} {i : Nat} (hi : i ∉ c.pn) (Rs : Rel M c Fs Hs σs es) (R : Rel M c F H σ env) (ev : Evo (Own σs es) (Own σ env) Fs Hs F H) (ok : RvOk M F H Hs σ env v r) (q : setR i r env N) :
    ∃ F' env', N env' ∧ Rel M c F' H (σ.set i (some v)) env' ∧ Evo (Own σs es) (Own (σ.set i (some v)) env') Fs Hs F' H := by
  cases r with
  | fz d => exact ⟨F, _, q, R.setFz' hi ok, ev.trans (Evo.sub own_setFz)⟩
  | ow o =>
    obtain ⟨p, rfl, a2, a3, a4, a5⟩ := ok
    refine ⟨F, _, q, R.setOw' hi a2 a3 a4 (Rs.new a5), ⟨ev.fs, ev.fn, ev.hk, ev.ht, fun b hb => ?_⟩⟩
    rcases own_setOw b hb with z | z
    · exact ev.aa b z
    · rw [z]; exact .inr a5
  | sl j =>
    obtain ⟨h1, o, h2⟩ := ok
    unfold setR at q
    dsimp only at q
    split at q
    · rename_i e
      subst e
      have : σ.set i (some v) = σ := by
        apply List.ext_getElem?
        intro k
        by_cases hk : i = k
        · subst hk
          rw [List.getElem?_set_self (List.getElem?_eq_some_iff.mp h1).1, h1]
        · rw [List.getElem?_set_ne hk]
      rw [this]
      exact ⟨F, env, q, R, ev⟩
    · obtain ⟨d, e2, a, q⟩ := q
      obtain ⟨F', R', ev', r'⟩ := frz1_ok (r := .sl j) R h1 a
      exact ⟨F', _, q, R'.setFz' hi r', (ev.trans ev').trans (Evo.sub own_setFz)⟩
end
theorem ss_set {i : Nat} {x : Str} {pos' : Pos} (hi : i ∉ c.pn) (hN : X.N.Nodup) (hx : X.N[i]? = some x) (hl : Loc X.env.scope x) (h : SE X c W e w) (hs : swapsWith e (some (.Name x pos')) pos.line X.env = pure false := by rfl)
    (hf : X.fn x = true ∨ X.env.scope.names.lookup x = some .local := by first | exact .inl rfl | exact .inr rfl | assumption) : SS X c W (.Assign [.Name x pos'] e pos) (wSet i w) := by
  refine ⟨PS.imp (ps_set hN hx hl h.pe hs hf) fun D σ H q => ?_, ⟨fun k q => h.mo.mo (fun _ _ z => setR_mono (fun _ z => k.nx _ z) z) (fun _ _ z => k.ex _ _ z) q⟩⟩
  obtain ⟨F, env, R, q⟩ := q
  refine ⟨F, env, R, h.mo.mo (fun r e z => ?_) (fun _ _ z => z.xp) q⟩
  intro v F' H' R' ev ok
  obtain ⟨F2, e2, n, R2, ev2⟩ := setR_ok hi R R' ev ok z
  exact n _ F2 H' R2 ev2

/-! ### x.append(e), x[i] = e, x a name that owns a list -/
def wApp (i : Nat) (w : EW) : SW := fun K env => (∃ ds0, env[i]? = some (some (.ow (.lst ds0)))) ∧ wFz w env (fun r e => ∃ ds d e2, r ≠ .sl i ∧ frz1 e r = some (d, e2) ∧ e2[i]? = some (some (.ow (.lst ds))) ∧ ds.length < sizeLine ∧ K.nx (e2.set i (some (.ow (.lst (ds ++ [d])))))) K.ex
theorem ss_app {i : Nat} {x : Str} {p1 p2 p3 : Pos} (h : SE X c W e w) (hx : X.N[i]? = some x := by rfl) (hv : Vis X.env.scope x := by first | exact Or.inl rfl | exact Or.inr (Or.inl rfl) | exact Or.inr (Or.inr rfl))
    (hd : (x == ("__debug__" : Str)) = false := by decide) (hcd : (x == ("__classdict__" : Str)) = false := by decide)
    (hbase : attributeBase (.Name x p1) "append" X.env (eval (.Name x p1) X.env) = eval (.Name x p1) X.env := by rfl)
    (hfew : ((backTo p3 (starEach [e] X.env)).all (fun x => !x.1) && (backToKw p3 (keywordEach [] X.env)).all (fun x => x.1.isSome)
      && decide ([e].length + ([] : List Keyword).length + (if ([] : List Keyword).isEmpty then 0 else 1) < 30)) = true := by rfl)
    (hline : (p2.endLine == p3.line) = true := by rfl) (hs : starEach [e] X.env = (false, eval e X.env) :: starEach [] X.env := by rfl) (hplain : (backTo p3 (starEach [] X.env)).any (·.1) = false := by rfl)
    (hsw : swapsWith (.Call (.Attribute (.Name x p1) "append" p2) [e] [] p3) none pos.line X.env = pure false := by rfl) :
    SS X c W (.Expr (.Call (.Attribute (.Name x p1) "append" p2) [e] [] p3) pos) (wApp i w) := by
  refine ⟨PS.imp (ps_expr (pe_bm PySem.F.plainAttrs_list PySem.F.slot_list_append PySem.F.type_list_append mt_append (pe_var hx hv hd hcd) (pa_cons h.pe pa_nil hs) hbase hfew hline hs hplain) hsw) fun D σ H q => ?_,
    ⟨fun k ⟨q0, q⟩ => ⟨q0, h.mo.fz.mo (fun _ _ ⟨ds, d, e2, n, a, b, l, z⟩ => ⟨ds, d, e2, n, a, b, l, k.nx _ z⟩) (fun _ _ z => k.ex _ _ z) q⟩⟩⟩
  obtain ⟨F, env, R, ⟨ds0, q0⟩, q⟩ := q
  obtain ⟨p, hp, hpF, xs0, hpH, _⟩ := R.ow i _ q0
  refine ⟨.ref p, hp, .inl ⟨rfl, xs0, .inl (.inl hpH)⟩, ?_⟩
  refine opd h.mo R (h.mo.fz.mo (fun _ _ z => z) (fun _ _ z => z.xp) q) fun r e1 v F1 H1 R1 ev1 ok1 ⟨ds, d, e2, ne, a, b, l, z⟩ => ?_
  obtain ⟨F2, R2, ev2, rv⟩ := frz1_ok R1 ok1 a
  obtain ⟨p', h1, h2, xs, h3, h4⟩ := R2.ow i _ b
  rw [hp] at h1; cases h1
  refine ⟨p, xs, v, rfl, rfl, h3, by rw [h4.length]; exact l, ?_⟩
  obtain ⟨R3, ev3⟩ := R2.write (o' := .lst (ds ++ [d])) (u := .lst (xs ++ [v])) b hp ⟨_, upd_same, h4.append (.cons rv .nil)⟩
  exact z σ F2 _ R3 ((ev1.trans ev2).trans ev3)
def wSetIx (i : Nat) (w wi : EW) : SW := fun K env => wFz w env (fun r e1 => (∃ v0, e1[i]? = some (some v0)) ∧ wFz wi e1 (fun ri e2 => ∃ k j ds d e3, look e2 ri = some (.int k) ∧ r ≠ .sl i ∧ frz1 e2 r = some (d, e3) ∧ e3[i]? = some (some (.ow (.lst ds))) ∧ ixN ds.length k = some j ∧ K.nx (e3.set i (some (.ow (.lst (ds.set j d)))))) K.ex) K.ex
theorem ss_setIx {i : Nat} {x : Str} {ei : Expr} {wi : EW} {p1 p2 : Pos} (h : SE X c W e w) (hi : SE X c W ei wi) (hx : X.N[i]? = some x := by rfl) (hv : Vis X.env.scope x := by first | exact Or.inl rfl | exact Or.inr (Or.inl rfl) | exact Or.inr (Or.inr rfl))
    (hd : (x == ("__debug__" : Str)) = false := by decide) (hcd : (x == ("__classdict__" : Str)) = false := by decide)
    (ha : ∀ v, assign (.Subscript (.Name x p1) ei p2) X.env v = (do
      let ov ← holding [v] (eval (.Name x p1) X.env)
      let iv ← holding [v, ov] (eval ei X.env)
      standAt p2
      holding [v, ov, iv] (setItem ov iv v)
      release [v, ov, iv] []) := by intro _; rfl)
    (hs : swapsWithSole [.Subscript (.Name x p1) ei p2] e pos.line X.env = pure false := by rfl) (hw : swappedStores [.Subscript (.Name x p1) ei p2] e X.env = pure none := by rfl)
    (h1 : (assignEach [.Subscript (.Name x p1) ei p2] X.env).map (·.2) = [assign (.Subscript (.Name x p1) ei p2) X.env] := by rfl) :
    SS X c W (.Assign [.Subscript (.Name x p1) ei p2] e pos) (wSetIx i w wi) := by
  refine ⟨PS.imp (ps_asg h.pe (pg_sub (pe_var hx hv hd hcd) hi.pe set_list ha) hs hw h1) fun D σ H q => ?_,
    ⟨fun k q => h.mo.fz.mo (fun _ _ ⟨q0, q⟩ => ⟨q0, hi.mo.fz.mo (fun _ _ ⟨k1, j, ds, d, e3, l, n, a, b, ll, z⟩ => ⟨k1, j, ds, d, e3, l, n, a, b, ll, k.nx _ z⟩) (fun _ _ z => k.ex _ _ z) q⟩) (fun _ _ z => k.ex _ _ z) q⟩⟩
  obtain ⟨F, env, R, q⟩ := q
  refine opd h.mo R (h.mo.fz.mo (fun _ _ z => z) (fun _ _ z => z.xp) q) fun r e1 v F1 H1 R1 ev1 ok1 ⟨⟨v0, q0⟩, q1⟩ => ?_
  have hσ : ∃ v1, σ[i]? = some (some v1) := by
    cases v0 with
    | fz d => obtain ⟨v1, h1, _⟩ := R1.fz i d q0; exact ⟨v1, h1⟩
    | ow o => obtain ⟨p, h1, _⟩ := R1.ow i o q0; exact ⟨_, h1⟩
    | ex a C ks vs => exact ⟨_, (R1.ex i a C ks vs q0).1⟩
  obtain ⟨v1, hv1⟩ := hσ
  refine ⟨v1, hv1, ?_⟩
  refine opd hi.mo R1 (hi.mo.fz.mo (fun _ _ z => z) (fun _ _ z => XPost.step ev1 z.xp) q1) fun ri e2 vi F2 H2 R2 ev2 ok2 ⟨k, j, ds, d, e3, l, ne, a, b, ij, z⟩ => ?_
  have hvi := ok2.vw R2 l
  cases (show vi = .int k from hvi)
  obtain ⟨F3, R3, ev3, rv⟩ := frz1_ok R2 (ok1.same ev2.fs) a
  obtain ⟨p, h1, h2, xs, h3, h4⟩ := R3.ow i _ b
  rw [hv1] at h1; cases h1
  refine ⟨p, xs, k, j, rfl, rfl, h3, by rw [h4.length]; exact ij, ?_⟩
  obtain ⟨R4, ev4⟩ := R3.write (o' := .lst (ds.set j d)) (u := .lst (xs.set j v)) b hv1 ⟨_, upd_same, h4.set rv j⟩
  exact z σ F3 _ R4 (((ev1.trans ev2).trans ev3).trans ev4)

/-! ### targets -/
inductive Tg where
  | n (i : Nat)
  | t (is : List Nat)
def Tg.slots : Tg → List Nat
  | .n i => [i]
  | .t is => is
def gNs : List Nat → TGs
  | [] => gNil
  | i :: is => gCons (gName i) (gNs is)
def gT (K : PySem.W.Frag) : Tg → TG
  | .n i => gName i
  | .t is => gTup K is.length (gNs is)
def bindS (env : En) : List Nat → List D → Option En
  | [], [] => some env
  | i :: is, d :: ds => bindS (env.set i (some (.fz d))) is ds
  | _, _ => none
def bindT (tg : Tg) (d : D) (env : En) : Option En :=
  match tg, d with
  | .n i, d => some (env.set i (some (.fz d)))
  | .t is, .tup ds => bindS env is ds
  | _, _ => none
def stS (σ : St) : List Nat → List V → St
  | i :: is, v :: vs => stS (σ.set i (some v)) is vs
  | _, _ => σ
theorem bindS_ok {M : Md} {F H : Hp} : ∀ {is : List Nat} {ds : List D} {vs : List V} {σ : St} {env env' : En} {Q : St → Hp → Prop}, (∀ i ∈ is, i ∉ c.pn) → Rel M c F H σ env → RepL M F vs ds → bindS env is ds = some env' →
    (Rel M c F H (stS σ is vs) env' → (∀ b, Own (stS σ is vs) env' b → Own σ env b) → Q (stS σ is vs) H) → gNs is vs σ H Q
  | [], [], [], σ, env, env', Q, _, R, _, e, q => by cases e; exact ⟨rfl, q R fun _ h => h⟩
  | i :: is, d :: ds, v :: vs, σ, env, env', Q, hi, R, .cons r rs, e, q => by
    refine ⟨v, vs, rfl, ?_⟩
    refine bindS_ok (is := is) (ds := ds) (fun j hj => hi j (List.mem_cons_of_mem _ hj)) (R.setFz' (hi i List.mem_cons_self) r) rs e fun R' ow => ?_
    exact q R' fun b hb => own_setFz b (ow b hb)
  | [], _ :: _, _, _, _, _, _, _, _, _, e, _ => by cases e
  | _ :: _, [], _, _, _, _, _, _, _, _, e, _ => by cases e
def stT (tg : Tg) (x : V) (vs : List V) (σ : St) : St :=
  match tg with
  | .n i => σ.set i (some x)
  | .t is => stS σ is vs
theorem bindT_ok {M : Md} {F H : Hp} {tg : Tg} {x : V} {d : D} {σ : St} {env env' : En} {Q : St → Hp → Prop} (hi : ∀ i ∈ tg.slots, i ∉ c.pn) (R : Rel M c F H σ env) (r : Rep M F x d) (e : bindT tg d env = some env')
    (q : ∀ vs, Rel M c F H (stT tg x vs σ) env' → (∀ b, Own (stT tg x vs σ) env' b → Own σ env b) → Q (stT tg x vs σ) H) : gT M.K tg x σ H Q := by
  cases tg with
  | n i =>
    cases e
    exact q [] (R.setFz' (hi i List.mem_cons_self) r) fun b hb => own_setFz b hb
  | t is =>
    cases r with
    | @tup a xs ds h rl =>
      have hl : xs.length = is.length := by
        rw [rl.length]
        have : ∀ {is : List Nat} {ds : List D} {env : En}, bindS env is ds = some env' → ds.length = is.length := by
          intro is
          induction is with
          | nil => intro ds env h; cases ds with
            | nil => rfl
            | cons _ _ => cases h
          | cons i is ih => intro ds env h; cases ds with
            | nil => cases h
            | cons d ds => rw [List.length_cons, List.length_cons, ih h]
        exact this e
      exact ⟨a, xs, rfl, Same.sqT R.sub h, hl, bindS_ok hi R rl e (q xs)⟩
    | _ => cases e
/-- the targets' own derivation -/
structure SG (X : Cx) (e : Expr) (tg : Tg) : Prop where
  pg : PG X e (gT X.K tg)
theorem sg_name {i : Nat} {x : Str} (hN : X.N.Nodup) (hi : X.N[i]? = some x) (hx : Loc X.env.scope x) (hf : X.fn x = true ∨ X.env.scope.names.lookup x = some .local := by first | exact .inl rfl | exact .inr rfl | assumption) : SG X (.Name x pos) (.n i) := ⟨pg_name hN hi hx hf⟩
theorem sg_tup {es : List Expr} {k : Nat} {is : List Nat} (hc : X.calm = true) (h : PGs X es (gNs is)) (hn : (assignEach es X.env).length = is.length := by rfl) (hst : (assignEach es X.env).findIdx? (·.1) = none := by rfl) : SG X (.Tuple es k pos) (.t is) := ⟨pg_tup hc h hn hst⟩

/-! ### what a for walks -/
abbrev KeepE := En → Prop
abbrev IW := En → (List D → KeepE → En → Prop) → XW → Prop
structure MonoI (w : IW) : Prop where
  mo : ∀ {env : En} {Q Q' : List D → KeepE → En → Prop} {E E' : XW}, (∀ xs k e, Q xs k e → Q' xs k e) → (∀ x e, E x e → E' x e) → w env Q E → w env Q' E'
/-- the iterator J gives the items xs, in any later state where keep holds -/
structure Walks (M : Md) (c : Ct) (F : Hp) (J : It) (xs : List D) (keep : KeepE) : Prop where
  stop : ∀ F' H' σ' env', Rel M c F' H' σ' env' → Same F F' → keep env' → ∀ i, xs.length ≤ i → J.stop i H'
  go : ∀ F' H' σ' env', Rel M c F' H' σ' env' → Same F F' → keep env' → ∀ i d, xs[i]? = some d → J.go i H' ∧ ∀ x H'', J.yld i H' x H'' → ∃ F'', Same F'' H'' ∧ Evo Nob Nob F' H' F'' H'' ∧ Rep M F'' x d
def IRd (M : Md) (c : Ct) (W : WX) (w : IW) : TI := fun σ H R => ∃ F env, Rel M c F H σ env ∧ w env (fun xs keep env' => ∀ F' H' J, Rel M c F' H' σ env' → Evo (Own σ env) (Own σ env') F H F' H' → Walks M c F' J xs keep → R J H') (XPost M c W F H σ env)
structure SI (X : Cx) (c : Ct) (W : WX) (tg iter : Expr) (w : IW) : Prop where
  pi : PI X tg iter (IRd (mdX X) c W w)
  mo : MonoI w

/-! ### for -/
def loopW (tg : Tg) (body : SW) (keep : KeepE) (K : Ks) : List D → En → Prop
  | [], env => keep env ∧ K.nx env
  | d :: ds, env => keep env ∧ ∃ e1, bindT tg d env = some e1 ∧ body { K with nx := loopW tg body keep K ds, ct := loopW tg body keep K ds, bk := K.nx } e1
theorem loopW_mono {tg : Tg} {body : SW} {keep : KeepE} {K K' : Ks} (m : MonoS body) (k : KLe K K') : ∀ {ds : List D} {env : En}, loopW tg body keep K ds env → loopW tg body keep K' ds env
  | [], _, ⟨a, h⟩ => ⟨a, k.nx _ h⟩
  | d :: ds, _, ⟨a, e1, b, h⟩ => ⟨a, e1, b, m.mo (K := { K with nx := loopW tg body keep K ds, ct := loopW tg body keep K ds, bk := K.nx }) ⟨fun _ q => loopW_mono m k q, k.rt, k.nx, fun _ q => loopW_mono m k q, k.ex⟩ h⟩
def wFor (tg : Tg) (it : IW) (body : SW) : SW := fun K env => it env (fun xs keep e => loopW tg body keep K xs e) K.ex
theorem PI.imp {X : Cx} {tg e : Expr} {t t' : TI} (h : PI X tg e t) (i : ∀ σ H Q, t' σ H Q → t σ H Q) : PI X tg e t' := ⟨fun pins s σ H Q I q => h.run pins s σ H Q I (i σ H Q q)⟩
theorem ss_for {tgE iter : Expr} {body : List Stmt} {tg : Tg} {it : IW} {wb : SW} (hp : PassesOwn (model X.prog X.w) X.A X.env X.xe) (hc : X.calm = true) (hi : SI X c W tgE iter it) (hg : SG X tgE tg) (hpn : ∀ i ∈ tg.slots, i ∉ c.pn) (hb : SSs X c W body wb)
    (hs : ∀ x, foldedSetIterable iter X.env x = pure x := by intro _; rfl) : SS X c W (.For tgE iter body [] pos) (wFor tg it wb) := by
  refine ⟨PS.imp (ps_for hp hc hi.pi hg.pg hb.ps hs) fun D σ H q => ?_, ⟨fun k q => hi.mo.mo (fun _ _ _ z => loopW_mono hb.mo k z) (fun _ _ z => k.ex _ _ z) q⟩⟩
  obtain ⟨F, env, R, q⟩ := q
  refine ⟨F, env, R, hi.mo.mo (fun xs keep e1 z => ?_) (fun _ _ z => z.xp) q⟩
  intro F1 H1 J R1 ev1 wk
  refine ⟨fun i m σ' H' => m = xs.length - i ∧ i ≤ xs.length ∧ ∃ F' env', Rel (mdX X) c F' H' σ' env' ∧ Same F1 F' ∧ Evo (Own σ env) (Own σ' env') F H F' H' ∧ loopW tg wb keep (KsOf (mdX X) c W D F H σ env) (xs.drop i) env',
    ⟨xs.length, by simp, Nat.zero_le _, F1, e1, R1, Same.refl _, ev1, z⟩, ?_⟩
  rintro i m σ' H' ⟨rfl, hi, F', env', R', sm, ev, lw⟩
  by_cases hlt : i < xs.length
  · have hd : xs.drop i = xs[i] :: xs.drop (i + 1) := List.drop_eq_getElem_cons hlt
    rw [hd] at lw
    obtain ⟨kp, e2, hb2, lw⟩ := lw
    obtain ⟨go, yld⟩ := wk.go F' H' σ' env' R' sm kp i xs[i] (List.getElem?_eq_getElem hlt)
    refine .inr ⟨go, fun σ'' H'' => i + 1 ≤ xs.length ∧ ∃ F'' env'', Rel (mdX X) c F'' H'' σ'' env'' ∧ Same F1 F'' ∧ Evo (Own σ env) (Own σ'' env'') F H F'' H'' ∧ loopW tg wb keep (KsOf (mdX X) c W D F H σ env) (xs.drop (i + 1)) env'',
      fun σ'' H'' ⟨h1, h2⟩ => ⟨xs.length - (i + 1), by omega, rfl, h1, h2⟩, fun x H'' hy => ?_⟩
    obtain ⟨F2, s2, ev2, rx⟩ := yld x H'' hy
    have R2 := R'.evo ev2 s2
    refine bindT_ok hpn R2 rx hb2 fun vs R3 ow3 => ?_
    have ev3 : Evo (Own σ env) (Own (stT tg x vs σ') e2) F H F2 H'' := (ev.trans ev2.nob).trans (Evo.sub ow3)
    have sm3 : Same F1 F2 := sm.trans ev2.fs
    refine ⟨F2, e2, R3, hb.mo.mo (K := { KsOf (mdX X) c W D F H σ env with nx := loopW tg wb keep (KsOf (mdX X) c W D F H σ env) (xs.drop (i + 1)), ct := loopW tg wb keep (KsOf (mdX X) c W D F H σ env) (xs.drop (i + 1)), bk := NxP (mdX X) c F H σ env D.nx }) ⟨fun e q σ4 F4 H4 R4 ev4 => ?_, fun r e q v σ4 F4 H4 R4 ev4 ok => q v σ4 F4 H4 R4 (ev3.trans ev4) ok, fun e q σ4 F4 H4 R4 ev4 => q σ4 F4 H4 R4 (ev3.trans ev4), fun e q σ4 F4 H4 R4 ev4 => ?_, fun x e q cl d σ4 F4 H4 R4 ev4 ok => q cl d σ4 F4 H4 R4 (ev3.trans ev4) ok⟩ lw⟩
    · exact ⟨hlt, F4, e, R4, sm3.trans ev4.fs, ev3.trans ev4, q⟩
    · exact ⟨hlt, F4, e, R4, sm3.trans ev4.fs, ev3.trans ev4, q⟩
  · have e : i = xs.length := by omega
    subst e
    rw [List.drop_length] at lw
    obtain ⟨kp, lw⟩ := lw
    exact .inl ⟨wk.stop F' H' σ' env' R' sm kp _ (Nat.le_refl _), lw σ' F' H' R' ev⟩
end
end LV


set_option Elab.async false
set_option linter.all false
set_option maxRecDepth 100000
namespace LV
open PySem PySem.Spec L2 RZ

/-! ### what a for walks: lists, tuples, texts, by the value that comes -/
def iAny (K : PySem.W.Frag) (te : TE) : TI := fun σ H R => te σ H fun x H1 => (∃ a, x = .ref a ∧ (∃ xs, SqL K H1 a xs) ∧ R (Itl K a) H1) ∨ (∃ a, x = .ref a ∧ (∃ xs, SqT K H1 a xs) ∧ R (Itt K a) H1) ∨ (∃ z, x = .str z ∧ R (Its z) H1)
theorem pi_anyS {X : Cx} {tg e : Expr} {te : TE} (he : PE X e te) : PI X tg e (iAny X.K te) := by
  refine ⟨fun pins s σ H R I h => ?_⟩
  refine thn (he.run pins s σ H _ I h) fun v s1 ⟨x, H1, I1, r1, q1⟩ => ?_
  rcases q1 with ⟨a, rfl, ⟨xs, hq⟩, q⟩ | ⟨a, rfl, ⟨xs, hq⟩, q⟩ | ⟨z, rfl, q⟩
  · cases r1
    obtain ⟨its, rv, p, hz⟩ := I1.list hq
    refine wpAny_pyIter_list p.isList ?_
    refine ⟨s1.heap.objs.size, [s1.heap.objs.size], _, _, H1, rfl, I1.kept (t' := s1.toks) fun b o e => Heap.get?_push_of_some _ e, turn_list a _, ⟨_, Heap.get?_push_size _ rfl, rfl, rfl⟩, fun b hb => ?_, q⟩
    have e : b = s1.heap.objs.size := by simpa using hb
    subst e
    exact I1.fpOk (Nat.le_refl _) (I1.hok.fresh (Nat.le_refl _))
  · cases r1
    obtain ⟨its, rv, p, hz⟩ := I1.tuple hq
    refine wpAny_pyIter_tuple (show s1.heap.IsTuple a its.toArray from p) ?_
    refine ⟨s1.heap.objs.size, [s1.heap.objs.size], _, _, H1, rfl, I1.kept (t' := s1.toks) fun b o e => Heap.get?_push_of_some _ e, turn_tuple a _, ⟨_, Heap.get?_push_size _ rfl, rfl, rfl⟩, fun b hb => ?_, q⟩
    have e : b = s1.heap.objs.size := by simpa using hb
    subst e
    exact I1.fpOk (Nat.le_refl _) (I1.hok.fresh (Nat.le_refl _))
  · obtain ⟨t, rfl⟩ := r1
    cases ha : z.cps.all (· < 128)
    · exact wpAny_pyIter_wide ha (pi_one (tk := s1.toks) I1 _ (turn_str _ z t "str_iterator" (.inr rfl)) ⟨_, Heap.get?_push_size _ rfl, rfl, rfl⟩ q)
    · exact wpAny_pyIter_ascii ha (pi_one (tk := s1.toks) I1 _ (turn_str _ z t "str_ascii_iterator" (.inl rfl)) ⟨_, Heap.get?_push_size _ rfl, rfl, rfl⟩ q)

/-- the items of a value that is walked -/
def itemsD : D → Option (List D)
  | .tup ds => some ds
  | .lst ds => some ds
  | .scr ns => some (ns.map D.int)
  | .str z => some (z.cps.toList.map fun c => D.str ⟨#[c]⟩)
  | _ => none
def yesK : KeepE := fun _ => True
def itR (pn : List Nat) (r : Rv) (e : En) (Q : List D → KeepE → En → Prop) : Prop :=
  match r with
  | .fz d => ∃ xs, itemsD d = some xs ∧ Q xs yesK e
  | .ow o => ∃ xs, itemsD o.d = some xs ∧ Q xs yesK e
  | .sl j => if j ∈ pn then ∃ xs, e[j]? = some (some (.ow (.lst xs))) ∧ Q xs (fun e' => e'[j]? = some (some (.ow (.lst xs)))) e
    else ∃ d e2 xs, frz1 e (.sl j) = some (d, e2) ∧ itemsD d = some xs ∧ Q xs yesK e2
theorem itR_mono {pn : List Nat} {r : Rv} {e : En} {Q Q' : List D → KeepE → En → Prop} (h : ∀ xs k e, Q xs k e → Q' xs k e) (q : itR pn r e Q) : itR pn r e Q' := by
  cases r with
  | fz d => obtain ⟨xs, a, q⟩ := q; exact ⟨xs, a, h _ _ _ q⟩
  | ow o => obtain ⟨xs, a, q⟩ := q; exact ⟨xs, a, h _ _ _ q⟩
  | sl j =>
    unfold itR at q ⊢
    dsimp only at q ⊢
    split at q
    · rename_i hj
      rw [if_pos hj]
      obtain ⟨xs, a, q⟩ := q; exact ⟨xs, a, h _ _ _ q⟩
    · rename_i hj
      rw [if_neg hj]
      obtain ⟨d, e2, xs, a, b, q⟩ := q; exact ⟨d, e2, xs, a, b, h _ _ _ q⟩
def wIt (pn : List Nat) (w : EW) : IW := fun env Q E => w env (fun r e => itR pn r e Q) E
section
variable {X : Cx} {c : Ct} {W : WX} {tg e a b d : Expr} {w wa wb wd : EW} {pos p tpos : Pos} {wl : AW} {es elts : List Expr} {kk : Nat}
theorem MonoI.it {pn : List Nat} (m : Mono w) : MonoI (wIt pn w) := ⟨fun hQ hE h => m.mo (fun _ _ z => itR_mono hQ z) hE h⟩
theorem Walks.list {M : Md} {F H : Hp} {σ : St} {env : En} {p : Addr} {xs : List V} {ds : List D} (h : F p = some (.lst xs)) (r : RepL M F xs ds) : Walks M c F (Itl M.K p) ds yesK := by
  have key : ∀ F' H' σ' env', Rel M c F' H' σ' env' → Same F F' → SqL M.K H' p xs := fun F' H' σ' env' R s => .inl (.inl (R.sub _ _ (s _ _ h)))
  refine ⟨fun F' H' σ' env' R s _ i hi => ⟨xs, key F' H' σ' env' R s, by rw [r.length]; exact hi⟩, fun F' H' σ' env' R s _ i d hd => ?_⟩
  obtain ⟨v, hv, rv⟩ := r.get' hd
  have k := key F' H' σ' env' R s
  refine ⟨⟨xs, v, k, hv⟩, fun x H'' ⟨e, y⟩ => ?_⟩
  subst e
  have := y xs k
  rw [hv] at this; cases this
  exact ⟨F', R.sub, Evo.refl, rv.same s⟩
theorem Walks.keptList {M : Md} {F H : Hp} {σ : St} {env : En} {j : Nat} {p : Addr} {xs : List V} {ds : List D} (hj : j ∈ c.pn) (R0 : Rel M c F H σ env) (hp : σ[j]? = some (some (.ref p))) (h : H p = some (.lst xs)) (r : RepL M F xs ds) :
    Walks M c F (Itl M.K p) ds (fun e' => e'[j]? = some (some (.ow (.lst ds)))) := by
  have key : ∀ F' H' σ' env', Rel M c F' H' σ' env' → env'[j]? = some (some (.ow (.lst ds))) → ∃ ys, SqL M.K H' p ys ∧ RepL M F' ys ds := fun F' H' σ' env' R k => by
    obtain ⟨q, h1, h2, ys, h3, h4⟩ := R.ow j _ k
    rw [R.pin j hj, ← R0.pin j hj, hp] at h1; cases h1
    exact ⟨ys, .inl (.inl h3), h4⟩
  refine ⟨fun F' H' σ' env' R s k i hi => ?_, fun F' H' σ' env' R s k i d hd => ?_⟩
  · obtain ⟨ys, h1, h2⟩ := key F' H' σ' env' R k
    exact ⟨ys, h1, by rw [h2.length]; exact hi⟩
  · obtain ⟨ys, h1, h2⟩ := key F' H' σ' env' R k
    obtain ⟨v, hv, rv⟩ := h2.get' hd
    refine ⟨⟨ys, v, h1, hv⟩, fun x H'' ⟨e, y⟩ => ?_⟩
    subst e
    have := y ys h1
    rw [hv] at this; cases this
    exact ⟨F', R.sub, Evo.refl, rv⟩
theorem Walks.tup {M : Md} {F : Hp} {p : Addr} {xs : List V} {ds : List D} (h : SqT M.K F p xs) (r : RepL M F xs ds) : Walks M c F (Itt M.K p) ds yesK := by
  have key : ∀ F' H' σ' env', Rel M c F' H' σ' env' → Same F F' → SqT M.K H' p xs := fun F' H' σ' env' R s => Same.sqT (s.trans R.sub) h
  refine ⟨fun F' H' σ' env' R s _ i hi => ⟨xs, key F' H' σ' env' R s, by rw [r.length]; exact hi⟩, fun F' H' σ' env' R s _ i d hd => ?_⟩
  obtain ⟨v, hv, rv⟩ := r.get' hd
  have k := key F' H' σ' env' R s
  refine ⟨⟨xs, v, k, hv⟩, fun x H'' ⟨e, y⟩ => ?_⟩
  subst e
  have := y xs k
  rw [hv] at this; cases this
  exact ⟨F', R.sub, Evo.refl, rv.same s⟩
theorem Walks.scr {M : Md} {F : Hp} {p : Addr} {ns : List Int} (h : SqL M.K F p (ns.map V.int)) : Walks M c F (Itl M.K p) (ns.map D.int) yesK := by
  have key : ∀ F' H' σ' env', Rel M c F' H' σ' env' → Same F F' → SqL M.K H' p (ns.map V.int) := fun F' H' σ' env' R s => (s.trans R.sub).seq h
  have r : RepL M F (ns.map V.int) (ns.map D.int) := RepL.of_ints ns
  refine ⟨fun F' H' σ' env' R s _ i hi => ⟨_, key F' H' σ' env' R s, by rw [r.length]; exact hi⟩, fun F' H' σ' env' R s _ i d hd => ?_⟩
  obtain ⟨v, hv, rv⟩ := r.get' hd
  have k := key F' H' σ' env' R s
  refine ⟨⟨_, v, k, hv⟩, fun x H'' ⟨e, y⟩ => ?_⟩
  subst e
  have := y _ k
  rw [hv] at this; cases this
  exact ⟨F', R.sub, Evo.refl, rv.same s⟩
theorem Walks.str {M : Md} {F : Hp} {z : Str} : Walks M c F (Its z) (z.cps.toList.map fun c => D.str ⟨#[c]⟩) yesK := by
  refine ⟨fun F' H' σ' env' R s _ i hi => by simpa [Its] using hi, fun F' H' σ' env' R s _ i d hd => ?_⟩
  rw [List.getElem?_map] at hd
  cases hc : z.cps.toList[i]? with
  | none => rw [hc] at hd; cases hd
  | some cp =>
    rw [hc] at hd; cases hd
    have hc' : z.cps[i]? = some cp := by simpa using hc
    refine ⟨(Array.getElem?_eq_some_iff.mp hc').1, fun x H'' ⟨e, cp', h1, h2⟩ => ?_⟩
    subst e; subst h2
    rw [hc'] at h1; cases h1
    exact ⟨F', R.sub, Evo.refl, .str _⟩
/-- the walk over a value that is data -/
theorem walk_fz {M : Md} {F H : Hp} {σ : St} {env : En} {x : V} {d : D} {xs : List D} {R' : It → Hp → Prop} (R : Rel M c F H σ env) (r : Rep M F x d) (hi : itemsD d = some xs) (q : ∀ J, Walks M c F J xs yesK → R' J H) :
    (∃ a, x = .ref a ∧ (∃ xs, SqL M.K H a xs) ∧ R' (Itl M.K a) H) ∨ (∃ a, x = .ref a ∧ (∃ xs, SqT M.K H a xs) ∧ R' (Itt M.K a) H) ∨ (∃ z, x = .str z ∧ R' (Its z) H) := by
  cases r with
  | tup h r => cases hi; exact .inr (.inl ⟨_, rfl, ⟨_, Same.sqT R.sub h⟩, q _ (Walks.tup h r)⟩)
  | lst h r => cases hi; exact .inl ⟨_, rfl, ⟨_, .inl (.inl (R.sub _ _ h))⟩, q _ (Walks.list (H := H) (σ := σ) (env := env) h r)⟩
  | scr h => cases hi; exact .inl ⟨_, rfl, ⟨_, R.sub.seq h⟩, q _ (Walks.scr h)⟩
  | str z => cases hi; exact .inr (.inr ⟨z, rfl, q _ Walks.str⟩)
  | _ => cases hi
theorem si_it (h : SE X c W e w) : SI X c W tg e (wIt c.pn w) := by
  refine ⟨PI.imp (pi_anyS h.pe) fun σ H R' q => ?_, .it h.mo⟩
  obtain ⟨F, env, R, q⟩ := q
  refine ⟨F, env, R, h.mo.mo (fun r e1 z => ?_) (fun _ _ z => z) q⟩
  intro v F1 H1 R1 ev1 ok
  cases r with
  | fz d =>
    obtain ⟨xs, hx, z⟩ := z
    exact walk_fz R1 ok hx fun J wk => z F1 H1 J R1 ev1 wk
  | ow o =>
    obtain ⟨xs, hx, z⟩ := z
    obtain ⟨pp, rfl, a2, a3, a4, a5⟩ := ok
    obtain ⟨u, hu, rp⟩ := a3.freeze a2
    have R2 := R1.addF hu a2 a4
    exact walk_fz R2 rp hx fun J wk => z _ H1 J R2 (ev1.addF a2 a5) wk
  | sl j =>
    obtain ⟨h1, o, h2⟩ := ok
    unfold itR at z
    dsimp only at z
    split at z
    · rename_i hj
      obtain ⟨xs, hx, z⟩ := z
      obtain ⟨pp, h3, h4, ys, h5, h6⟩ := R1.ow j _ hx
      rw [h1] at h3; cases h3
      exact .inl ⟨pp, rfl, ⟨ys, .inl (.inl h5)⟩, z F1 H1 _ R1 ev1 (Walks.keptList hj R1 h1 h5 h6)⟩
    · obtain ⟨dd, e2, xs, ha, hx, z⟩ := z
      obtain ⟨F2, R2, ev2, rv⟩ := frz1_ok (r := .sl j) R1 h1 ha
      exact walk_fz R2 rv hx fun J wk => z F2 H1 J R2 (ev1.trans ev2) wk

/-! ### ranges -/
def rngD (lo : Int) : Nat → List D
  | 0 => []
  | n + 1 => .int lo :: rngD (lo + 1) n
theorem rngD_len : ∀ (n : Nat) (lo : Int), (rngD lo n).length = n
  | 0, _ => rfl
  | n + 1, lo => by rw [rngD, List.length_cons, rngD_len n]
theorem rngD_get : ∀ (n : Nat) (lo : Int) (i : Nat), i < n → (rngD lo n)[i]? = some (.int (lo + i))
  | 0, _, i, h => by omega
  | n + 1, lo, 0, _ => by simp [rngD]
  | n + 1, lo, i + 1, h => by
    rw [rngD, List.getElem?_cons_succ, rngD_get n (lo + 1) i (by omega)]
    congr 2
    omega
theorem Walks.rng {M : Md} {F : Hp} {lo : Int} {n : Nat} : Walks M c F (Itr lo n) (rngD lo n) yesK := by
  refine ⟨fun F' H' σ' env' R s _ i hi => by rw [rngD_len] at hi; exact hi, fun F' H' σ' env' R s _ i d hd => ?_⟩
  have hi : i < n := by
    have := (List.getElem?_eq_some_iff.mp hd).1
    rw [rngD_len] at this; exact this
  rw [rngD_get n lo i hi] at hd; cases hd
  refine ⟨hi, fun x H'' ⟨e, y⟩ => ?_⟩
  subst e; subst y
  exact ⟨F', R.sub, Evo.refl, .int _⟩
/-- range(n), range(a, b) -/
def okR (i : Int) : Prop := -(2 ^ 62) ≤ i ∧ i < 2 ^ 62
def wRng1 (wl : AW) : IW := fun env Q E => wl env (fun rs e => ∃ j, lookL e rs = some [.int j] ∧ okR j ∧ Q (rngD 0 j.toNat) yesK e) E
def wRng2 (wl : AW) : IW := fun env Q E => wl env (fun rs e => ∃ i j, lookL e rs = some [.int i, .int j] ∧ okR i ∧ okR j ∧ Q (rngD i (j - i).toNat) yesK e) E
theorem vwL_int1 {M : Md} {F H : Hp} {vs : List V} {i : Int} (h : VwL M F H vs [.int i]) : vs = [.int i] := by
  match vs, h with
  | [v], ⟨h, _⟩ => cases (show v = .int i from h); rfl
theorem vwL_int2 {M : Md} {F H : Hp} {vs : List V} {i j : Int} (h : VwL M F H vs [.int i, .int j]) : vs = [.int i, .int j] := by
  match vs, h with
  | [v, u], ⟨h, h2, _⟩ => cases (show v = .int i from h); cases (show u = .int j from h2); rfl
theorem vwL_int3 {M : Md} {F H : Hp} {vs : List V} {i j k : Int} (h : VwL M F H vs [.int i, .int j, .int k]) : vs = [.int i, .int j, .int k] := by
  match vs, h with
  | [v, u, w], ⟨h, h2, h3, _⟩ => cases (show v = .int i from h); cases (show u = .int j from h2); cases (show w = .int k from h3); rfl
theorem si_rng1 (hg : Gl X "range") (hm : X.mg "range" = none) (ha : SA X c W [a] wl) (hs : starEach [a] X.env = [(false, eval a X.env)] := by rfl) : SI X c W tg (.Call (.Name "range" p) [a] [] pos) (wRng1 wl) := by
  refine ⟨PI.imp (pi_range1 hg hm ha.pa hs) fun σ H R' q => ?_, ⟨fun hQ hE h => ha.mo.mo (fun rs e ⟨j, l, o, z⟩ => ⟨j, l, o, hQ _ _ _ z⟩) hE h⟩⟩
  obtain ⟨F, env, R, q⟩ := q
  refine ⟨F, env, R, ha.mo.mo (fun rs e1 ⟨j, l, o, z⟩ => ?_) (fun _ _ z => z) q⟩
  intro vs F1 H1 R1 ev1 ok
  exact ⟨j, vwL_int1 (ok.vw R1 l), o.1, o.2, z F1 H1 _ R1 ev1 Walks.rng⟩
theorem si_rng2 (hg : Gl X "range") (hm : X.mg "range" = none) (ha : SA X c W [a, b] wl) (hs : starEach [a, b] X.env = [(false, eval a X.env), (false, eval b X.env)] := by rfl) (hs2 : starEach [b] X.env = [(false, eval b X.env)] := by rfl) :
    SI X c W tg (.Call (.Name "range" p) [a, b] [] pos) (wRng2 wl) := by
  refine ⟨PI.imp (pi_range2 hg hm ha.pa hs hs2) fun σ H R' q => ?_, ⟨fun hQ hE h => ha.mo.mo (fun rs e ⟨i, j, l, o, o2, z⟩ => ⟨i, j, l, o, o2, hQ _ _ _ z⟩) hE h⟩⟩
  obtain ⟨F, env, R, q⟩ := q
  refine ⟨F, env, R, ha.mo.mo (fun rs e1 ⟨i, j, l, o, o2, z⟩ => ?_) (fun _ _ z => z) q⟩
  intro vs F1 H1 R1 ev1 ok
  exact ⟨i, j, vwL_int2 (ok.vw R1 l), ⟨o.1, o.2, o2.1, o2.2⟩, z F1 H1 _ R1 ev1 Walks.rng⟩

/-! ### zip of two tuples or two lists -/
def zipD : List D → List D → List D
  | a :: as, b :: bs => .tup [a, b] :: zipD as bs
  | _, _ => []
theorem zipD_len : ∀ (as bs : List D), (zipD as bs).length = min as.length bs.length
  | [], _ => by simp [zipD]
  | _ :: _, [] => by simp [zipD]
  | a :: as, b :: bs => by rw [zipD, List.length_cons, zipD_len as bs, List.length_cons, List.length_cons]; omega
theorem zipD_get : ∀ {as bs : List D} {i : Nat} {d : D}, (zipD as bs)[i]? = some d → ∃ a b, as[i]? = some a ∧ bs[i]? = some b ∧ d = .tup [a, b]
  | [], _, i, d, h => by simp [zipD] at h
  | _ :: _, [], i, d, h => by simp [zipD] at h
  | a :: as, b :: bs, 0, d, h => by simp [zipD] at h; exact ⟨a, b, rfl, rfl, h.symm⟩
  | a :: as, b :: bs, i + 1, d, h => by
    have h' : (zipD as bs)[i]? = some d := by simpa [zipD] using h
    obtain ⟨x, y, h1, h2, h3⟩ := zipD_get h'
    exact ⟨x, y, by simpa using h1, by simpa using h2, h3⟩
theorem Rel.pair {M : Md} {F H : Hp} {σ : St} {env : En} {x y : V} {dx dy : D} {T : Addr} (R : Rel M c F H σ env) (hT : H T = none) (rx : Rep M F x dx) (ry : Rep M F y dy) :
    ∃ F'', Same F'' (upd H T (.tup [x, y])) ∧ Evo Nob Nob F H F'' (upd H T (.tup [x, y])) ∧ Rep M F'' (.ref T) (.tup [dx, dy]) := by
  have ev := Evo.newF (o := HO.tup [x, y]) hT (R.sub.free hT)
  exact ⟨_, same_newF R.sub hT, ev, .tup (.inl (.inl upd_same)) (.cons (rx.same ev.fs) (.cons (ry.same ev.fs) .nil))⟩
theorem Walks.zipT {M : Md} {F : Hp} {p q : Addr} {xs ys : List V} {as bs : List D} (h : SqT M.K F p xs) (r : RepL M F xs as) (h' : SqT M.K F q ys) (r' : RepL M F ys bs) : Walks M c F (ItzT M.K p q) (zipD as bs) yesK := by
  refine ⟨fun F' H' σ' env' R s _ i hi => ⟨xs, ys, Same.sqT (s.trans R.sub) h, Same.sqT (s.trans R.sub) h', ?_⟩, fun F' H' σ' env' R s _ i d hd => ?_⟩
  · rw [zipD_len] at hi
    rw [r.length, r'.length]
    omega
  · obtain ⟨da, db, h1, h2, rfl⟩ := zipD_get hd
    obtain ⟨x, hx, rx⟩ := r.get' h1
    obtain ⟨y, hy, ry⟩ := r'.get' h2
    have k1 := Same.sqT (s.trans R.sub) h
    have k2 := Same.sqT (s.trans R.sub) h'
    refine ⟨⟨xs, ys, x, y, k1, k2, hx, hy⟩, fun v H'' ⟨T, x', y', e1, hT, e2, f1, f2⟩ => ?_⟩
    subst e1; subst e2
    have := f1 xs k1; rw [hx] at this; cases this
    have := f2 ys k2; rw [hy] at this; cases this
    exact R.pair hT (rx.same s) (ry.same s)
theorem Walks.zipL {M : Md} {F : Hp} {p q : Addr} {xs ys : List V} {as bs : List D} (h : F p = some (.lst xs)) (r : RepL M F xs as) (h' : F q = some (.lst ys)) (r' : RepL M F ys bs) : Walks M c F (Itz M.K p q) (zipD as bs) yesK := by
  have l1 : SqL M.K F p xs := .inl (.inl h)
  have l2 : SqL M.K F q ys := .inl (.inl h')
  refine ⟨fun F' H' σ' env' R s _ i hi => ⟨xs, ys, (s.trans R.sub).seq l1, (s.trans R.sub).seq l2, ?_⟩, fun F' H' σ' env' R s _ i d hd => ?_⟩
  · rw [zipD_len] at hi
    rw [r.length, r'.length]
    omega
  · obtain ⟨da, db, h1, h2, rfl⟩ := zipD_get hd
    obtain ⟨x, hx, rx⟩ := r.get' h1
    obtain ⟨y, hy, ry⟩ := r'.get' h2
    have k1 := (s.trans R.sub).seq l1
    have k2 := (s.trans R.sub).seq l2
    refine ⟨⟨xs, ys, x, y, k1, k2, hx, hy⟩, fun v H'' ⟨T, x', y', e1, hT, e2, f1, f2⟩ => ?_⟩
    subst e1; subst e2
    have := f1 xs k1; rw [hx] at this; cases this
    have := f2 ys k2; rw [hy] at this; cases this
    exact R.pair hT (rx.same s) (ry.same s)
def wZip (wl : AW) : IW := fun env Q E => wl env (fun rs e => ∃ ds e', frzL e rs = some (ds, e') ∧ ((∃ as bs, ds = [.tup as, .tup bs] ∧ Q (zipD as bs) yesK e') ∨ (∃ as bs, ds = [.lst as, .lst bs] ∧ Q (zipD as bs) yesK e'))) E
theorem si_zip (hg : Gl X "zip") (hm : X.mg "zip" = none) (ha : SA X c W [a, b] wl) (hs : starEach [a, b] X.env = (false, eval a X.env) :: starEach [b] X.env := by rfl) (hpl : (backTo pos (starEach [b] X.env)).any (·.1) = false := by rfl) :
    SI X c W (.Tuple elts kk tpos) (.Call (.Name "zip" p) [a, b] [] pos) (wZip wl) := by
  refine ⟨PI.imp (pi_zipA hg hm ha.pa hs hpl) fun σ H R' q => ?_, ⟨fun hQ hE h => ha.mo.mo (fun rs e ⟨ds, e', l, z⟩ => ⟨ds, e', l, by
    rcases z with ⟨x, y, l, z⟩ | ⟨x, y, l, z⟩
    · exact .inl ⟨x, y, l, hQ _ _ _ z⟩
    · exact .inr ⟨x, y, l, hQ _ _ _ z⟩⟩) hE h⟩⟩
  obtain ⟨F, env, R, q⟩ := q
  refine ⟨F, env, R, ha.mo.mo (fun rs e1 ⟨ds, e', l, z⟩ => ?_) (fun _ _ z => z) q⟩
  intro vs F1 H1 R1 ev1 ok
  obtain ⟨F2, R2, ev2, rl⟩ := frzL_ok R1 ok l
  rcases z with ⟨as, bs, rfl, z⟩ | ⟨as, bs, rfl, z⟩
  · cases rl with
    | cons q1 rl =>
      cases rl with
      | cons q2 rl =>
        cases rl
        cases q1 with
        | tup h1 r1 => cases q2 with
          | tup h2 r2 => exact ⟨_, _, _, _, rfl, .inr ⟨Same.sqT R2.sub h1, Same.sqT R2.sub h2, z F2 H1 _ R2 (ev1.trans ev2) (Walks.zipT h1 r1 h2 r2)⟩⟩
  · cases rl with
    | cons q1 rl =>
      cases rl with
      | cons q2 rl =>
        cases rl
        cases q1 with
        | lst h1 r1 => cases q2 with
          | lst h2 r2 => exact ⟨_, _, _, _, rfl, .inl ⟨.inl (.inl (R2.sub _ _ h1)), .inl (.inl (R2.sub _ _ h2)), z F2 H1 _ R2 (ev1.trans ev2) (Walks.zipL h1 r1 h2 r2)⟩⟩
end
end LV


set_option Elab.async false
set_option linter.all false
set_option maxRecDepth 100000
namespace LV
open PySem PySem.Spec L2

/-! ### the slots of a comprehension's own names -/
def wipeE (env : En) : List Nat → En
  | [] => env
  | v :: vs => (wipeE env vs).set v none
theorem wipeE_len (env : En) : ∀ vs : List Nat, (wipeE env vs).length = env.length
  | [] => rfl
  | v :: vs => by rw [wipeE, List.length_set, wipeE_len env vs]
theorem wipeE_out {env : En} {i : Nat} : ∀ {vs : List Nat}, i ∉ vs → (wipeE env vs)[i]? = env[i]?
  | [], _ => rfl
  | v :: vs, h => by
    have hv : v ≠ i := fun z => h (z ▸ List.mem_cons_self)
    rw [wipeE, List.getElem?_set_ne hv, wipeE_out fun z => h (List.mem_cons_of_mem _ z)]
theorem wipeE_in {env : En} {i : Nat} {x : Val} : ∀ {vs : List Nat}, (wipeE env vs)[i]? = some (some x) → env[i]? = some (some x) ∧ i ∉ vs
  | [], h => ⟨h, by simp⟩
  | v :: vs, h => by
    rw [wipeE] at h
    by_cases hi : v = i
    · subst hi
      by_cases hv : v < (wipeE env vs).length
      · rw [List.getElem?_set_self hv] at h; cases h
      · rw [List.getElem?_eq_none (by simpa using hv)] at h; cases h
    · rw [List.getElem?_set_ne hi] at h
      obtain ⟨h1, h2⟩ := wipeE_in h
      exact ⟨h1, by simp only [List.mem_cons, not_or]; exact ⟨fun e => hi e.symm, h2⟩⟩
theorem wipe_out' {σ : St} {i : Nat} : ∀ {vs : List Nat}, i ∉ vs → (wipe σ vs)[i]? = σ[i]?
  | [], _ => rfl
  | v :: vs, h => by
    have hv : v ≠ i := fun z => h (z ▸ List.mem_cons_self)
    rw [wipe, List.getElem?_set_ne hv, wipe_out' fun z => h (List.mem_cons_of_mem _ z)]
theorem wipe_at {σ : St} {i : Nat} : ∀ {vs : List Nat}, i ∈ vs → (wipe σ vs)[i]? = if i < σ.length then some none else none
  | [], h => nomatch h
  | v :: vs, h => by
    rw [wipe]
    by_cases hv : v = i
    · subst hv
      by_cases hl : v < σ.length
      · rw [List.getElem?_set_self (by rw [wipe_length]; exact hl), if_pos hl]
      · rw [List.getElem?_eq_none (by rw [List.length_set, wipe_length]; omega), if_neg hl]
    · rw [List.getElem?_set_ne hv]
      rcases List.mem_cons.mp h with e | h
      · exact absurd e.symm hv
      · exact wipe_at h
theorem wipe_congr {σ σ' : St} {vs : List Nat} (hl : σ'.length = σ.length) (h : ∀ i, i ∉ vs → σ'[i]? = σ[i]?) : wipe σ' vs = wipe σ vs := by
  apply List.ext_getElem?
  intro i
  by_cases hi : i ∈ vs
  · rw [wipe_at hi, wipe_at hi, hl]
  · rw [wipe_out' hi, wipe_out' hi, h i hi]
theorem stS_len : ∀ {is : List Nat} {vs : List V} {σ : St}, (stS σ is vs).length = σ.length
  | [], _, _ => by unfold stS; rfl
  | i :: is, [], _ => rfl
  | i :: is, v :: vs, σ => by
    show (stS (σ.set i (some v)) is vs).length = _
    rw [stS_len, List.length_set]
theorem stS_out : ∀ {is : List Nat} {vs : List V} {σ : St} {j : Nat}, j ∉ is → (stS σ is vs)[j]? = σ[j]?
  | [], _, _, _, _ => by unfold stS; rfl
  | i :: is, [], _, _, _ => rfl
  | i :: is, v :: vs, σ, j, h => by
    have hi : i ≠ j := fun z => h (z ▸ List.mem_cons_self)
    show (stS (σ.set i (some v)) is vs)[j]? = _
    rw [stS_out fun z => h (List.mem_cons_of_mem _ z), List.getElem?_set_ne hi]
theorem wipe_stT {tg : Tg} {x : V} {us : List V} {σ : St} {vs : List Nat} (h : ∀ i ∈ tg.slots, i ∈ vs) : wipe (stT tg x us (wipe σ vs)) vs = wipe σ vs := by
  refine wipe_congr ?_ fun i hi => ?_
  · cases tg with
    | n j => show ((wipe σ vs).set j _).length = _; rw [List.length_set, wipe_length]
    | t is => show (stS (wipe σ vs) is us).length = _; rw [stS_len, wipe_length]
  · cases tg with
    | n j =>
      have : j ≠ i := fun z => hi (z ▸ h j List.mem_cons_self)
      show ((wipe σ vs).set j _)[i]? = _
      rw [List.getElem?_set_ne this, wipe_out' hi]
    | t is =>
      show (stS (wipe σ vs) is us)[i]? = _
      rw [stS_out (is := is) fun z => hi (h i z), wipe_out' hi]
section
variable {M : Md} {c : Ct} {F H : Hp} {σ : St} {env : En} {vs : List Nat}
theorem Rel.wiped (R : Rel M c F H σ env) (hv : ∀ i ∈ vs, i ∉ c.pn) : Rel M c F H (wipe σ vs) (wipeE env vs) := by
  refine ⟨R.sub, by rw [wipe_length, wipeE_len]; exact R.len, fun i d h => ?_, fun i o h => ?_, fun i a C ks ds h => ?_, fun i j o u p h1 h2 h3 h4 => ?_, fun i hi => ?_, R.old, fun i o p h hn hp => ?_⟩
  · obtain ⟨h1, h2⟩ := wipeE_in h
    rw [wipe_out' h2]; exact R.fz i d h1
  · obtain ⟨h1, h2⟩ := wipeE_in h
    rw [wipe_out' h2]; exact R.ow i o h1
  · obtain ⟨h1, h2⟩ := wipeE_in h
    rw [wipe_out' h2]; exact R.ex i a C ks ds h1
  · obtain ⟨a1, a2⟩ := wipeE_in h1
    obtain ⟨b1, b2⟩ := wipeE_in h2
    rw [wipe_out' a2] at h3
    rw [wipe_out' b2] at h4
    exact R.sep i j o u p a1 b1 h3 h4
  · rw [wipe_out' fun z => hv i z hi]; exact R.pin i hi
  · obtain ⟨h1, h2⟩ := wipeE_in h
    rw [wipe_out' h2] at hp
    exact R.fr i o p h1 hn hp
theorem own_wipe : ∀ b, Own (wipe σ vs) (wipeE env vs) b → Own σ env b := fun b ⟨i, o, h1, h2⟩ => by
  obtain ⟨a1, a2⟩ := wipeE_in h1
  rw [wipe_out' a2] at h2
  exact ⟨i, o, a1, h2⟩
theorem Rel.unwipe (R : Rel M c F H (wipe σ vs) (wipeE env vs)) (hv : ∀ i ∈ vs, i ∉ c.pn) : Rel M c F H σ (wipeE env vs) := by
  refine ⟨R.sub, by have := R.len; rw [wipe_length] at this; exact this, fun i d h => ?_, fun i o h => ?_, fun i a C ks ds h => ?_, fun i j o u p h1 h2 h3 h4 => ?_, fun i hi => ?_, R.old, fun i o p h hn hp => ?_⟩
  · have h2 := (wipeE_in h).2
    obtain ⟨v, a, b⟩ := R.fz i d h
    rw [wipe_out' h2] at a; exact ⟨v, a, b⟩
  · have h2 := (wipeE_in h).2
    obtain ⟨v, a, b⟩ := R.ow i o h
    rw [wipe_out' h2] at a; exact ⟨v, a, b⟩
  · have h2 := (wipeE_in h).2
    have := R.ex i a C ks ds h
    rw [wipe_out' h2] at this; exact this
  · have a2 := (wipeE_in h1).2
    have b2 := (wipeE_in h2).2
    exact R.sep i j o u p h1 h2 (by rw [wipe_out' a2]; exact h3) (by rw [wipe_out' b2]; exact h4)
  · have := R.pin i hi
    rw [wipe_out' fun z => hv i z hi] at this; exact this
  · have h2 := (wipeE_in h).2
    exact R.fr i o p h hn (by rw [wipe_out' h2]; exact hp)
theorem own_unwipe : ∀ b, Own σ (wipeE env vs) b → Own (wipe σ vs) (wipeE env vs) b := fun b ⟨i, o, h1, h2⟩ => by
  have a2 := (wipeE_in h1).2
  exact ⟨i, o, h1, by rw [wipe_out' a2]; exact h2⟩
end

/-! ### [elt for target in iter if cond] -/
abbrev W0 : WX := fun _ _ _ _ => False
abbrev X0 : XW := fun _ _ => False
def compW (tg : Tg) (u : TW) (w : EW) (vs : List Nat) (keep : KeepE) (Q : List D → En → Prop) : List D → List D → En → Prop
  | [], acc, env => keep env ∧ Q acc env
  | d :: ds, acc, env => keep env ∧ ∃ e1, bindT tg d env = some e1 ∧ u e1 (fun b e2 => if b = true then wFz w e2 (fun r e3 => ∃ dd e4, frz1 e3 r = some (dd, e4) ∧ acc.length < sizeLine ∧ compW tg u w vs keep Q ds (acc ++ [dd]) (wipeE e4 vs)) X0 else compW tg u w vs keep Q ds acc (wipeE e2 vs)) X0
theorem compW_mono {tg : Tg} {u : TW} {w : EW} {vs : List Nat} {keep : KeepE} {Q Q' : List D → En → Prop} (mu : MonoT u) (mw : Mono w) (h : ∀ a e, Q a e → Q' a e) : ∀ {ds acc : List D} {env : En}, compW tg u w vs keep Q ds acc env → compW tg u w vs keep Q' ds acc env
  | [], _, _, ⟨a, q⟩ => ⟨a, h _ _ q⟩
  | d :: ds, acc, env, ⟨a, e1, b, q⟩ => ⟨a, e1, b, mu.mo (fun k e2 q => by
    cases k with
    | true =>
      rw [if_pos rfl] at q ⊢
      exact mw.fz.mo (fun r e3 ⟨dd, e4, f, l, q⟩ => ⟨dd, e4, f, l, compW_mono mu mw h q⟩) (fun _ _ z => z) q
    | false =>
      rw [if_neg Bool.false_ne_true] at q ⊢
      exact compW_mono mu mw h q) (fun _ _ z => z) q⟩
def wLc (tg : Tg) (it : IW) (u : TW) (w : EW) (vs : List Nat) : EW := fun env Q E => it env (fun xs keep e => compW tg u w vs keep (fun acc e' => Q (.ow (.lst acc)) e') xs [] (wipeE e vs)) E
theorem Mono.lc {tg : Tg} {it : IW} {u : TW} {w : EW} {vs : List Nat} (mi : MonoI it) (mu : MonoT u) (mw : Mono w) : Mono (wLc tg it u w vs) := ⟨fun hQ hE h => mi.mo (fun _ _ _ z => compW_mono mu mw (fun _ _ q => hQ _ _ q) z) hE h⟩
def uYes : TW := fun env Q _ => Q true env
structure STs (X : Cx) (c : Ct) (W : WX) (es : List Expr) (w : TW) : Prop where
  pt : PTs X es (TRd (mdX X) c W w)
  mo : MonoT w
theorem sts_nil {X : Cx} {c : Ct} {W : WX} : STs X c W [] uYes := ⟨⟨fun pins s σ H Q I h => by
  obtain ⟨F, env, R, h⟩ := h
  exact pts_nil.run pins s σ H Q I (h F H R Evo.refl)⟩, ⟨fun hQ _ h => hQ _ _ h⟩⟩
theorem sts_one {X : Cx} {c : Ct} {W : WX} {e : Expr} {u : TW} (h : ST X c W e u) : STs X c W [e] u := ⟨pts_one h.pt, h.mo⟩
/-- keep speaks of no slot of vs -/
def KeepOk (vs : List Nat) (keep : KeepE) : Prop := ∀ e, keep (wipeE e vs) → True
section
variable {M : Md} {c : Ct} {W : WX} {σ : St} {H : Hp}
theorem lc_rd {tg : Tg} {it : IW} {u : TW} {w : EW} {vs : List Nat} {Q : VK} (mi : MonoI it) (mu : MonoT u) (mw : Mono w) (hv : ∀ i ∈ vs, i ∉ c.pn) (ht : ∀ i ∈ tg.slots, i ∈ vs)
    (h : ERd M c W (wLc tg it u w vs) σ H Q) : tLc (IRd M c W it) (gT M.K tg) (TRd M c W0 u) (ERd M c W0 w) vs σ H Q := by
  obtain ⟨F, env, R, h⟩ := h
  refine ⟨F, env, R, mi.mo (fun xs keep e1 z => ?_) (fun _ _ z => z) h⟩
  intro F1 H1 J R1 ev1 wk D hD
  have hDF : F1 D = none := R1.sub.free hD
  have R2 : Rel M c F1 (upd H1 D (.lst [])) (wipe σ vs) (wipeE e1 vs) := (R1.evo (Evo.newO hD) (same_newO R1.sub hD)).wiped hv
  refine ⟨fun i m H' => m = xs.length - i ∧ i ≤ xs.length ∧ ∃ F' e0 acc accV, Rel M c F' H' (wipe σ vs) (wipeE e0 vs) ∧ Same F1 F' ∧ Evo (Own σ env) (Own (wipe σ vs) (wipeE e0 vs)) F H F' H' ∧ H' D = some (.lst accV) ∧ F' D = none ∧ ¬ Own (wipe σ vs) (wipeE e0 vs) D ∧ RepL M F' accV acc ∧
      compW tg u w vs keep (fun acc e' => EPost M c F H σ env Q (.ow (.lst acc)) e') (xs.drop i) acc (wipeE e0 vs),
    ⟨xs.length, by simp, Nat.zero_le _, F1, e1, [], [], R2, Same.refl _, (ev1.trans (Evo.newO hD).nob).trans (Evo.sub own_wipe), upd_same, hDF, fun z => R1.notOwn hD (own_wipe _ z), .nil, z⟩, ?_⟩
  rintro i m H' ⟨rfl, hi, F', e0, acc, accV, R', sm, ev, hDH, hDF', hDo, ra, cw⟩
  have wkk : ∀ {env' : En} {σ' : St} {F'' H'' : Hp}, True := fun {_ _ _ _} => True.intro
  by_cases hlt : i < xs.length
  · have hd : xs.drop i = xs[i] :: xs.drop (i + 1) := List.drop_eq_getElem_cons hlt
    rw [hd] at cw
    obtain ⟨kp, e2, hb2, cw⟩ := cw
    obtain ⟨go, yld⟩ := wk.go F' H' (wipe σ vs) (wipeE e0 vs) R' sm kp i xs[i] (List.getElem?_eq_getElem hlt)
    refine .inr ⟨go, fun H'' => ∃ F' e0 acc accV, Rel M c F' H'' (wipe σ vs) (wipeE e0 vs) ∧ Same F1 F' ∧ Evo (Own σ env) (Own (wipe σ vs) (wipeE e0 vs)) F H F' H'' ∧ H'' D = some (.lst accV) ∧ F' D = none ∧ ¬ Own (wipe σ vs) (wipeE e0 vs) D ∧ RepL M F' accV acc ∧
      compW tg u w vs keep (fun acc e' => EPost M c F H σ env Q (.ow (.lst acc)) e') (xs.drop (i + 1)) acc (wipeE e0 vs),
      fun H'' h => ⟨xs.length - (i + 1), by omega, rfl, hlt, h⟩, fun x H'' hy => ?_⟩
    obtain ⟨F2, s2, ev2, rx⟩ := yld x H'' hy
    have R2' := R'.evo ev2 s2
    obtain ⟨k1, k2, k3⟩ := ev2.nob.keepTemp (A := Own (wipe σ vs) (wipeE e0 vs)) hDH hDF' hDo
    refine bindT_ok (fun j hj => hv j (ht j hj)) R2' rx hb2 fun us R3 ow3 => ?_
    have w1 : wipe (stT tg x us (wipe σ vs)) vs = wipe σ vs := wipe_stT ht
    refine ⟨w1, ?_⟩
    have ev3 : Evo (Own σ env) (Own (stT tg x us (wipe σ vs)) e2) F H F2 H'' := (ev.trans ev2.nob).trans (Evo.sub ow3)
    have d3 : ¬ Own (stT tg x us (wipe σ vs)) e2 D := fun z => hDo (ow3 D z)
    refine ⟨F2, e2, R3, mu.mo (fun b e4 q => ?_) (fun _ _ z => z.elim) cw⟩
    intro F4 H4 R4 ev4
    obtain ⟨l1, l2, l3⟩ := ev4.keepTemp k1 k2 d3
    cases b with
    | false =>
      rw [if_neg Bool.false_ne_true] at q ⊢
      have R5 := R4.wiped hv
      rw [w1] at R5
      have o5 : ∀ b, Own (wipe σ vs) (wipeE e4 vs) b → Own (stT tg x us (wipe σ vs)) e4 b := fun b hb => own_wipe b (by rw [w1]; exact hb)
      exact ⟨F4, e4, acc, accV, R5, (sm.trans ev2.fs).trans ev4.fs, (ev3.trans ev4).trans (Evo.sub o5), l1, l2, fun z => l3 (o5 D z), ra.same (ev2.fs.trans ev4.fs), q⟩
    | true =>
      rw [if_pos rfl] at q ⊢
      refine opd mw R4 (mw.fz.mo (fun _ _ z => z) (fun _ _ z => z.elim) q) fun r e5 v F5 H5 R5 ev5 ok5 ⟨dd, e6, hf, hl, q⟩ => ?_
      obtain ⟨F6, R6, ev6, rv⟩ := frz1_ok R5 ok5 hf
      have ev56 := ev5.trans ev6
      obtain ⟨m1, m2, m3⟩ := ev56.keepTemp l1 l2 l3
      refine ⟨accV, m1, by rw [(ra.same (F' := F6) ((ev2.fs.trans ev4.fs).trans ev56.fs)).length]; exact hl, ?_⟩
      have hDnone : ∀ b o, F6 b = some o → b ≠ D := fun b o hb z => by rw [z, m2] at hb; cases hb
      have R7 : Rel M c F6 (upd H5 D (.lst (accV ++ [v]))) (stT tg x us (wipe σ vs)) e6 := by
        refine ⟨fun b o hb => by rw [upd_ne (hDnone b o hb)]; exact R6.sub b o hb, R6.len, R6.fz, fun j o hj => ?_, R6.ex, R6.sep, R6.pin, fun b u hb => ?_, R6.fr⟩
        · obtain ⟨pp, h1, h2, h3⟩ := R6.ow j o hj
          have : pp ≠ D := fun z => m3 ⟨j, o, hj, z ▸ h1⟩
          exact ⟨pp, h1, h2, h3.same (Same.refl _) (upd_ne this)⟩
        · obtain ⟨u', hu⟩ := R6.old b u hb
          by_cases hbd : b = D
          · exact ⟨_, by rw [hbd]; exact upd_same⟩
          · exact ⟨u', by rw [upd_ne hbd]; exact hu⟩
      have H0D : H D = none := ev1.noneOf hD
      have evA := (ev3.trans ev4).trans ev56
      have ev7 : Evo (Own σ env) (Own (stT tg x us (wipe σ vs)) e6) F H F6 (upd H5 D (.lst (accV ++ [v]))) := by
        refine ⟨evA.fs, evA.fn, fun b o hb hn => ?_, fun b o hb => ?_, evA.aa⟩
        · have : b ≠ D := fun z => by rw [z, H0D] at hb; cases hb
          rw [upd_ne this]; exact evA.hk b o hb hn
        · by_cases hbd : b = D
          · exact ⟨_, by rw [hbd]; exact upd_same⟩
          · rw [upd_ne hbd]; exact evA.ht b o hb
      have R8 := R7.wiped hv
      rw [w1] at R8
      have o8 : ∀ b, Own (wipe σ vs) (wipeE e6 vs) b → Own (stT tg x us (wipe σ vs)) e6 b := fun b hb => own_wipe b (by rw [w1]; exact hb)
      exact ⟨F6, e6, acc ++ [dd], accV ++ [v], R8, ((sm.trans ev2.fs).trans ev4.fs).trans ev56.fs, ev7.trans (Evo.sub o8), upd_same, m2, fun z => m3 (o8 D z), (ra.same ((ev2.fs.trans ev4.fs).trans ev56.fs)).append (.cons rv .nil), q⟩
  · have e : i = xs.length := by omega
    subst e
    rw [List.drop_length] at cw
    obtain ⟨kp, cw⟩ := cw
    refine .inl ⟨wk.stop F' H' (wipe σ vs) (wipeE e0 vs) R' sm kp _ (Nat.le_refl _), ?_⟩
    exact cw (.ref D) F' H' (R'.unwipe hv) (ev.trans (Evo.sub own_unwipe)) ⟨D, rfl, hDF', ⟨accV, hDH, ra⟩, fun z => hDo (own_unwipe D z), ev1.noneOf hD⟩
end
section
variable {X : Cx} {c : Ct} {W : WX} {elt tgE iter : Expr} {ifs : List Expr} {scope : Scope} {own : List (Str × Nat)} {pos : Pos} {tg : Tg} {it : IW} {u : TW} {w : EW}
theorem se_lc (hc : X.calm = true) (hN : X.N.Nodup) (hi : SI X c W tgE iter it) (ok : BlkOk X.N X.env.scope scope own) (hv : ∀ i ∈ own.map (·.2), i ∉ c.pn) (ht : ∀ i ∈ tg.slots, i ∈ own.map (·.2)) (mu : MonoT u) (mw : Mono w)
    (hg : ∀ (s : Shared) (H : Hp) (C : Addr) (cl : List (Str × Addr)) (fp : List Addr), SG (X.blk s H scope (compEnvC scope cl C X.env) fp) tgE tg)
    (hu : ∀ (s : Shared) (H : Hp) (C : Addr) (cl : List (Str × Addr)) (fp : List Addr), STs (X.blk s H scope (compEnvC scope cl C X.env) fp) c W0 ifs u)
    (he : ∀ (s : Shared) (H : Hp) (C : Addr) (cl : List (Str × Addr)) (fp : List Addr), SE (X.blk s H scope (compEnvC scope cl C X.env) fp) c W0 elt w)
    (hs : ∀ x, foldedSetIterable iter X.env x = pure x := by intro _; rfl) : SE X c W (.ListComp elt [⟨tgE, iter, ifs, 0⟩] scope pos) (wLc tg it u w (own.map (·.2))) :=
  ⟨PE.imp (pe_lc (te := ERd (mdX X) c W0 w) (tt := TRd (mdX X) c W0 u) (g := gT X.K tg) hc hN hi.pi ok (fun s H C cl fp => (hg s H C cl fp).pg) (fun s H C cl fp => (hu s H C cl fp).pt) (fun s H C cl fp => (he s H C cl fp).pe) hs) fun σ H Q h => lc_rd hi.mo mu mw hv ht h, .lc hi.mo mu mw⟩
theorem ss_setLc {i : Nat} {y : Str} {py spos : Pos} (hip : i ∉ c.pn) (hc : X.calm = true) (hN : X.N.Nodup) (hy : X.N[i]? = some y) (hyl : X.env.scope.names.lookup y = some .local)
    (hsw : swapsWith (.ListComp elt [⟨tgE, iter, ifs, 0⟩] scope pos) (some (.Name y py)) spos.line X.env = pure true) (hi : SI X c W tgE iter it) (ok : BlkOk X.N X.env.scope scope own) (hv : ∀ i ∈ own.map (·.2), i ∉ c.pn) (ht : ∀ i ∈ tg.slots, i ∈ own.map (·.2)) (mu : MonoT u) (mw : Mono w)
    (hg : ∀ (s : Shared) (H : Hp) (C : Addr) (cl : List (Str × Addr)) (fp : List Addr), SG (X.blk s H scope (compEnvC scope cl C X.env) fp) tgE tg)
    (hu : ∀ (s : Shared) (H : Hp) (C : Addr) (cl : List (Str × Addr)) (fp : List Addr), STs (X.blk s H scope (compEnvC scope cl C X.env) fp) c W0 ifs u)
    (he : ∀ (s : Shared) (H : Hp) (C : Addr) (cl : List (Str × Addr)) (fp : List Addr), SE (X.blk s H scope (compEnvC scope cl C X.env) fp) c W0 elt w)
    (hs : ∀ x, foldedSetIterable iter X.env x = pure x := by intro _; rfl) : SS X c W (.Assign [.Name y py] (.ListComp elt [⟨tgE, iter, ifs, 0⟩] scope pos) spos) (wSet i (wLc tg it u w (own.map (·.2)))) := by
  have mm : Mono (wLc tg it u w (own.map (·.2))) := .lc hi.mo mu mw
  refine ⟨PS.imp (ps_setLc (te := ERd (mdX X) c W0 w) (tt := TRd (mdX X) c W0 u) (g := gT X.K tg) hc hN hy hyl hsw hi.pi ok (fun s H C cl fp => (hg s H C cl fp).pg) (fun s H C cl fp => (hu s H C cl fp).pt) (fun s H C cl fp => (he s H C cl fp).pe) hs) fun D σ H q => ?_,
    ⟨fun k q => mm.mo (fun _ _ z => setR_mono (fun _ z => k.nx _ z) z) (fun _ _ z => k.ex _ _ z) q⟩⟩
  obtain ⟨F, env, R, q⟩ := q
  refine lc_rd hi.mo mu mw hv ht ⟨F, env, R, mm.mo (fun r e z => ?_) (fun _ _ z => z.xp) q⟩
  intro v F' H' R' ev ok
  obtain ⟨F2, e2, n, R2, ev2⟩ := setR_ok hip R R' ev ok z
  exact n _ F2 H' R2 ev2
end
end LV


set_option Elab.async false
set_option linter.all false
set_option maxRecDepth 100000
namespace LV
open PySem PySem.Spec L2

/-! ### a def keeps its spec -/
def startE (n : Nat) (args : List Val) : En := args.map some ++ List.replicate (n - args.length) none
/-- the arguments at the end: a pinned slot's as it stands, another one's as it was -/
def finA (pn : List Nat) (env : En) : Nat → List Val → Option (List Val)
  | _, [] => some []
  | j, a :: as => match (if j ∈ pn then (env[j]?).getD none else some a), finA pn env (j + 1) as with
    | some v, some vs => some (v :: vs)
    | _, _ => none
def KsFn (pn : List Nat) (args : List Val) (Q : Rv → List Val → Prop) (E : Xn → List Val → Prop) : Ks where
  nx := fun env => ∃ as, finA pn env 0 args = some as ∧ Q (.fz .non) as
  rt := fun r env => ∃ as, finA pn env 0 args = some as ∧ Q r as
  bk := fun _ => False
  ct := fun _ => False
  ex := fun x env => ∃ as, finA pn env 0 args = some as ∧ E x as
theorem finA_get {pn : List Nat} {env : En} : ∀ {args as : List Val} {j k : Nat} {a : Val}, finA pn env j args = some as → as[k]? = some a →
    ∃ b, args[k]? = some b ∧ ((j + k ∈ pn ∧ env[j + k]? = some (some a)) ∨ (j + k ∉ pn ∧ a = b))
  | [], _, j, k, a, h, e => by cases h; simp at e
  | b :: args, as, j, k, a, h, e => by
    unfold finA at h
    cases h1 : (if j ∈ pn then (env[j]?).getD none else some b) with
    | none => rw [h1] at h; cases h
    | some v =>
      cases h2 : finA pn env (j + 1) args with
      | none => rw [h1, h2] at h; cases h
      | some vs =>
        rw [h1, h2] at h; cases h
        cases k with
        | zero =>
          simp at e; subst e
          refine ⟨b, rfl, ?_⟩
          by_cases hj : j ∈ pn
          · rw [if_pos hj] at h1
            refine .inl ⟨hj, ?_⟩
            show env[j]? = _
            cases he : env[j]? with
            | none => rw [he] at h1; cases h1
            | some x => rw [he] at h1; simp at h1; rw [h1]
          · rw [if_neg hj] at h1; cases h1
            exact .inr ⟨hj, rfl⟩
        | succ k =>
          obtain ⟨c, h3, h4⟩ := finA_get (j := j + 1) (k := k) h2 (by simpa using e)
          refine ⟨c, by simpa using h3, ?_⟩
          rw [show j + 1 + k = j + (k + 1) by omega] at h4
          exact h4
theorem finA_len {pn : List Nat} {env : En} : ∀ {args as : List Val} {j : Nat}, finA pn env j args = some as → as.length = args.length
  | [], _, j, h => by cases h; rfl
  | b :: args, as, j, h => by
    unfold finA at h
    cases h1 : (if j ∈ pn then (env[j]?).getD none else some b) with
    | none => rw [h1] at h; cases h
    | some v =>
      cases h2 : finA pn env (j + 1) args with
      | none => rw [h1, h2] at h; cases h
      | some vs => rw [h1, h2] at h; cases h; rw [List.length_cons, List.length_cons, finA_len h2]
/-- what a spec must say of its arguments -/
structure ArgsFit (pn : List Nat) (n : Nat) (args : List Val) : Prop where
  len : args.length = n
  ow : ∀ (j : Nat) (o : O), args[j]? = some (.ow o) → j ∈ pn
  ex : ∀ (j : Nat) (a : Addr) (C : Str) (ks : List Str) (vs : List D), args[j]? ≠ some (.ex a C ks vs)
theorem startE_get {n : Nat} {args : List Val} {j : Nat} {a : Val} : (startE n args)[j]? = some (some a) ↔ args[j]? = some a := by
  unfold startE
  by_cases h : j < args.length
  · rw [List.getElem?_append_left (by simpa using h), List.getElem?_map]
    cases args[j]? <;> simp
  · rw [List.getElem?_append_right (by simpa using h), List.getElem?_replicate, List.getElem?_eq_none (by omega)]
    split <;> simp
theorem start_get {N : List Str} {vs : List V} {j : Nat} {v : V} : (start N vs)[j]? = some (some v) ↔ vs[j]? = some v := by
  unfold L2.start
  by_cases h : j < vs.length
  · rw [List.getElem?_append_left (by simpa using h), List.getElem?_map]
    cases vs[j]? <;> simp
  · rw [List.getElem?_append_right (by simpa using h), List.getElem?_replicate, List.getElem?_eq_none (by omega)]
    split <;> simp
section
variable {M : Md} {F H F' H' : Hp} {N : List Str} {vs : List V} {args as : List Val} {pn : List Nat} {n : Nat} {σ' : St} {env' : En}
theorem Rel.begin (R : Rel M ct0 F H (sV vs) (eV args)) (hf : ArgsFit pn n args) (hn : n ≤ N.length) : Rel M ⟨pn, start N vs, H, fun _ _ _ => False⟩ F H (start N vs) (startE N.length args) := by
  have hl : vs.length = args.length := by
    have := R.len
    unfold eV sV at this
    simpa using this.symm
  refine ⟨R.sub, ?_, fun i d h => ?_, fun i o h => ?_, fun i a C ks ds h => ?_, fun i j o u p h1 h2 h3 h4 => ?_, fun _ _ => rfl, fun b u h => ⟨u, h⟩, fun i o p h hn' _ => ?_⟩
  · unfold startE L2.start
    simp only [List.length_append, List.length_map, List.length_replicate, hl]
  · obtain ⟨v, h1, h2⟩ := R.fz i d (eV_get.mpr (startE_get.mp h))
    exact ⟨v, start_get.mpr (sV_get.mp h1), h2⟩
  · obtain ⟨p, h1, h2⟩ := R.ow i o (eV_get.mpr (startE_get.mp h))
    exact ⟨p, start_get.mpr (sV_get.mp h1), h2⟩
  · exact absurd (startE_get.mp h) (hf.ex i a C ks ds)
  · exact R.sep i j o u p (eV_get.mpr (startE_get.mp h1)) (eV_get.mpr (startE_get.mp h2)) (sV_get.mpr (start_get.mp h3)) (sV_get.mpr (start_get.mp h4))
  · exact absurd (hf.ow i o (startE_get.mp h)) hn'
theorem own_begin : ∀ b, Own (start N vs) (startE n args) b ↔ Own (sV vs) (eV args) b := fun b =>
  ⟨fun ⟨i, o, h1, h2⟩ => ⟨i, o, eV_get.mpr (startE_get.mp h1), sV_get.mpr (start_get.mp h2)⟩, fun ⟨i, o, h1, h2⟩ => ⟨i, o, startE_get.mpr (eV_get.mp h1), start_get.mpr (sV_get.mp h2)⟩⟩
/-- at the def's end -/
theorem Rel.finish (R : Rel M ct0 F H (sV vs) (eV args)) (hf : ArgsFit pn n args) (R' : Rel M ⟨pn, start N vs, H, fun _ _ _ => False⟩ F' H' σ' env') (ev : Evo (Own (start N vs) (startE N.length args)) (Own σ' env') F H F' H') (e : finA pn env' 0 args = some as) :
    Rel M ct0 F' H' (sV vs) (eV as) ∧ Evo (Own (sV vs) (eV args)) (Own (sV vs) (eV as)) F H F' H' ∧ ∀ b, Own (sV vs) (eV as) b → Own σ' env' b := by
  have hl : vs.length = args.length := by
    have := R.len
    unfold eV sV at this
    simpa using this.symm
  -- a final argument: pinned, or as it was
  have at_ : ∀ {k : Nat} {a : Val}, as[k]? = some a → (k ∈ pn ∧ env'[k]? = some (some a) ∧ ∃ v, vs[k]? = some v ∧ σ'[k]? = some (some v)) ∨ (k ∉ pn ∧ args[k]? = some a) := fun {k a} h => by
    obtain ⟨b, h1, h2⟩ := finA_get e h
    rw [Nat.zero_add] at h2
    rcases h2 with ⟨h2, h3⟩ | ⟨h2, h3⟩
    · have hk : k < vs.length := by rw [hl]; exact (List.getElem?_eq_some_iff.mp h1).1
      refine .inl ⟨h2, h3, vs[k], List.getElem?_eq_getElem hk, ?_⟩
      rw [R'.pin k h2]
      exact start_get.mpr (List.getElem?_eq_getElem hk)
    · exact .inr ⟨h2, by rw [h3]; exact h1⟩
  have owOf : ∀ {k : Nat} {o : O}, as[k]? = some (.ow o) → env'[k]? = some (some (.ow o)) ∧ ∃ v, vs[k]? = some v ∧ σ'[k]? = some (some v) := fun {k o} h => by
    rcases at_ h with ⟨_, h1, h2⟩ | ⟨h1, h2⟩
    · exact ⟨h1, h2⟩
    · exact absurd (hf.ow k o h2) h1
  have ownSub : ∀ b, Own (sV vs) (eV as) b → Own σ' env' b := fun b ⟨k, o, h1, h2⟩ => by
    obtain ⟨h3, v, h4, h5⟩ := owOf (eV_get.mp h1)
    rw [sV_get.mp h2] at h4; cases h4
    exact ⟨k, o, h3, h5⟩
  refine ⟨⟨R'.sub, ?_, fun k d h => ?_, fun k o h => ?_, fun k a C ks ds h => ?_, fun i j o u p h1 h2 h3 h4 => ?_, fun _ h => (nomatch h), fun _ _ h => (nomatch h), fun _ _ _ _ _ _ => rfl⟩, ⟨ev.fs, fun b o h => ?_, fun b o h hn => ?_, ev.ht, fun b h => ?_⟩, ownSub⟩
  · unfold eV sV
    rw [List.length_map, List.length_map, finA_len e, hl]
  · rcases at_ (eV_get.mp h) with ⟨_, h1, v, h2, h3⟩ | ⟨_, h1⟩
    · obtain ⟨v', h4, h5⟩ := R'.fz k d h1
      rw [h3] at h4; cases h4
      exact ⟨v, sV_get.mpr h2, h5⟩
    · obtain ⟨v, h2, h3⟩ := R.fz k d (eV_get.mpr h1)
      exact ⟨v, h2, h3.same ev.fs⟩
  · obtain ⟨h1, v, h2, h3⟩ := owOf (eV_get.mp h)
    obtain ⟨p, h4, h5, h6⟩ := R'.ow k o h1
    rw [h3] at h4; cases h4
    exact ⟨p, sV_get.mpr h2, h5, h6⟩
  · rcases at_ (eV_get.mp h) with ⟨_, h1, v, h2, h3⟩ | ⟨_, h1⟩
    · obtain ⟨_, _, _, z, _⟩ := R'.ex k a C ks ds h1
      exact z.elim
    · exact absurd h1 (hf.ex k a C ks ds)
  · obtain ⟨a1, v, a2, a3⟩ := owOf (eV_get.mp h1)
    obtain ⟨b1, v', b2, b3⟩ := owOf (eV_get.mp h2)
    rw [sV_get.mp h3] at a2; cases a2
    rw [sV_get.mp h4] at b2; cases b2
    exact R'.sep i j o u p a1 b1 a3 b3
  · rcases ev.fn b o h with z | z | z
    · exact .inl z
    · exact .inr (.inl z)
    · exact .inr (.inr ((own_begin b).mp z))
  · exact ev.hk b o h fun z => hn ((own_begin b).mp z)
  · rcases ev.aa b (ownSub b h) with z | z
    · exact .inl ((own_begin b).mp z)
    · exact .inr z
end
section
variable {P : Program} {w : World} {K : PySem.W.Frag} {mg : Str → Option Value} {base : Heap}
/-- what a spec must show of a body -/
structure Keeps (S : FSpec) (pn : List Nat) (np nl : Nat) (b : SW) : Prop where
  fit : ∀ args Q E, S args Q E → ArgsFit pn np args
  run : ∀ args Q E, S args Q E → b (KsFn pn args Q E) (startE nl args)
theorem fn_lv {x qual : Str} {st : Stmt} {f : Addr} {fd : FuncData} {N ps : List Str} {k : Nat} {S : FSpec} {b : SW} (pn : List Nat) (Fn : Fun K x qual st f fd) (Sc : FnScope N ps (defScope st)) (kp : Keeps S pn ps.length N.length b)
    (hbody : ∀ (cdv : Value) (A : Around) (outer : List Env) (s : Shared) (H : Hp) (vs : List V) (E : XK), Room k (A.deeper (PyProof.Rows.envOfC qual (defScope st) s.heap.objs.size f cdv)) →
      ∀ c : Ct, c.pn = pn → SSs (cxOf (L2.CX P w) P w K mg base N qual (defScope st) f cdv A outer s H E) c (fun cls d _ H => E cls d H) (defBody st) b) :
    FnOk P w K mg base (L2.CX P w) (k + 1) f fd ps (toSp ⟨K, mg, w⟩ S) := by
  have hpl : ps.length ≤ N.length := by have := congrArg List.length Sc.pre; rw [List.length_take] at this; omega
  have lenOf : ∀ {F H : Hp} {vs : List V} {args : List Val}, Rel ⟨K, mg, w⟩ ct0 F H (sV vs) (eV args) → vs.length = args.length := fun {F H vs args} R => by
    have := R.len
    unfold eV sV at this
    simpa using this.symm
  refine Fn.okX Sc (fun vs H Q E ⟨F, args, R, h⟩ => ?_) (fun cdv A outer s H vs Q E hr ⟨F, args, R, h⟩ => ?_)
  · rw [lenOf R, (kp.fit _ _ _ h).len]
  · have hf := kp.fit _ _ _ h
    have B := hbody cdv A outer s H vs E hr ⟨pn, start N vs, H, fun _ _ _ => False⟩ rfl
    refine ⟨_, B.ps, F, startE N.length args, R.begin hf hpl, B.mo.mo (K := KsFn pn args _ _) ⟨fun e q => ?_, fun r e q => ?_, fun _ z => z.elim, fun _ z => z.elim, fun xx e q => ?_⟩ (kp.run _ _ _ h)⟩
    · intro σ' F' H' R' ev
      obtain ⟨as, ea, q⟩ := q
      obtain ⟨R2, ev2, _⟩ := R.finish hf R' ev ea
      exact q .non F' H' R2 ev2 .non
    · intro v σ' F' H' R' ev ok
      obtain ⟨as, ea, q⟩ := q
      obtain ⟨R2, ev2, sub⟩ := R.finish hf R' ev ea
      refine q v F' H' R2 ev2 ?_
      cases r with
      | fz d => exact ok
      | sl i => exact ok.elim
      | ow o =>
        obtain ⟨p, a1, a2, a3, a4, a5⟩ := ok
        exact ⟨p, a1, a2, a3, fun z => a4 (sub p z), a5⟩
    · intro cl d σ' F' H' R' ev xo
      obtain ⟨as, ea, q⟩ := q
      obtain ⟨R2, ev2, _⟩ := R.finish hf R' ev ea
      exact q cl d F' H' R2 ev2 xo
end
end LV


set_option Elab.async false
set_option linter.all false
set_option maxRecDepth 100000
set_option maxHeartbeats 4000000
namespace LVX
open PySem PySem.Spec L2 PySem.W

theorem lookup_mem {α : Type} : ∀ {l : List (Str × α)} {x : Str} {v : α}, (l.map (·.1)).Nodup → (x, v) ∈ l → l.lookup x = some v
  | [], _, _, _, h => nomatch h
  | (y, u) :: l, x, v, n, h => by
    rw [List.map_cons, List.nodup_cons] at n
    rcases List.mem_cons.mp h with e | h
    · cases e
      simp [List.lookup]
    · have hy : x ≠ y := fun z => n.1 (z ▸ List.mem_map_of_mem (f := (·.1)) h)
      have : (x == y) = false := by simpa using hy
      simp only [List.lookup, this]
      exact lookup_mem n.2 h
theorem zip_rev {ps : List Str} {us : List Value} {i : Nat} {x : Str} {u : Value} (n : ps.Nodup) (hl : ps.length ≤ us.length) (h1 : ps[i]? = some x) (h2 : us[i]? = some u) : (ps.zip us).reverse.lookup x = some u := by
  have hm : (x, u) ∈ ps.zip us := by
    refine List.mem_of_getElem? (i := i) ?_
    rw [List.getElem?_zip_eq_some]
    exact ⟨h1, h2⟩
  have key : ((ps.zip us).map (·.1)).Nodup := by
    rw [List.map_fst_zip hl]
    exact n
  refine lookup_mem ?_ (List.mem_reverse.mpr hm)
  rw [List.map_reverse]
  exact List.pairwise_reverse.mpr (key.imp Ne.symm)

/-- a def that captures its class's cell (super() in it): the scope -/
structure SupScope (N P : List Str) (sc : Scope) : Prop where
  kind : sc.kind = .function
  co : sc.isCoroutine = false
  gen : sc.isGenerator = false
  nd : N.Nodup
  pre : N.take P.length = P
  par : ∀ x ∈ P, sc.names.lookup x = some .local
  nocell : ∀ y ∈ sc.names, y.2 ≠ .cell
  free : ∀ y : Str, sc.names.lookup y = some .free → y = "__class__"
  sup : sc.names.lookup ("super" : Str) = some .globalImplicit
  cls : sc.names.lookup ("__class__" : Str) = some .free
/-- the context of such a body -/
def cxS (CX : CXT) (P : Program) (w : World) (K : PySem.W.Frag) (mg : Str → Option Value) (base : Heap) (N : List Str) (qual : Str) (scope : Scope) (f : Addr) (cd : Value) (cc : Addr) (A : Around) (outer : List Env) (s : Shared) (H : Hp) (E : XK) : Cx where
  prog := P
  w := w
  K := K
  mg := mg
  base := base
  A := A.deeper (ksEnv qual scope s.heap.objs.size f cd cc)
  N := N
  s_0 := s
  H_0 := H
  env := ksEnv qual scope s.heap.objs.size f cd cc
  outer := outer
  stack := ksEnv qual scope s.heap.objs.size f cd cc :: outer
  ex := []
  calm := true
  fn := fun _ => false
  pn := []
  xe := fun e s' => wpAny (model P w) (A.deeper (ksEnv qual scope s.heap.objs.size f cd cc)) (leaving (ksEnv qual scope s.heap.objs.size f cd cc) e) (fun _ s'' => CX outer H s E e s'') (fun e' s'' => CX outer H s E e' s'') s'
theorem inv_startS {CX : CXT} {P : Program} {w : World} {K : PySem.W.Frag} {mg : Str → Option Value} {base : Heap} {N ps : List Str} {qual : Str} {scope : Scope} {f : Addr} {cd : Value} {cc : Addr} {A : Around} {outer : List Env} {s : Shared} {H : Hp} {E : XK} {us : List Value} {vs : List V} {h₀ : Heap} {tk : Nat} {v0 : Option Value} {oc : Value} {od : Option Addr} {osl : Array (Option Value)}
    (S : SupScope N ps scope) (hd : A.handled = none) (e0 : Env0 P w K mg base A outer s H) (hl : vs.length = ps.length) (r : Vals vs us) (hcc : K.lookup cc = some ⟨oc, od, .cell v0, osl⟩)
    (hns : h₀.Ns s.heap.objs.size (fun x => (ps.zip us).reverse.lookup x)) (hk : ∀ b o, s.heap.get? b = some o → h₀.get? b = some o) :
    Inv (cxS CX P w K mg base N qual scope f cd cc A outer s H E) [] (L2.start N vs) H { s with heap := h₀, toks := tk } := by
  have hpl : ps.length ≤ N.length := by have := congrArg List.length S.pre; rw [List.length_take] at this; omega
  have noA : ∀ b : Addr, b ∉ (cxS CX P w K mg base N qual scope f cd cc A outer s H E).ex := fun b z => absurd (show b ∈ ([] : List Addr) from z) (by simp)
  have cellOf : ∀ (y : Str) (c : Addr), (cxS CX P w K mg base N qual scope f cd cc A outer s H E).env.cells.lookup y = some c → c = cc := fun y c h => by
    have h' : ([(("__class__" : Str), cc)] : List (Str × Addr)).lookup y = some c := h
    simp only [List.lookup] at h'
    split at h'
    · exact (Option.some.inj h').symm
    · cases h'
  have ccb : base.get? cc = some ⟨oc, od, .cell v0, osl⟩ := e0.mod.kin _ _ hcc
  refine ⟨⟨e0.mod, S.kind, rfl, rfl, Nat.le_refl _, fun y z c h1 h2 => ?_, fun y hy => ?_, fun y c hf _ => (nomatch hf), fun _ => hd, Around.frames_deeper e0.frames, .inr ⟨rfl, rfl⟩, fun b z => absurd z (noA b), e0.bs, e0.bsz, fun b _ _ => noA b, fun b z => absurd z (noA b), e0.funs, e0.frf⟩,
    rfl, e0.bare, Un.kept hk, ⟨_, hns, fun i y v h1 h2 h3 => ?_⟩, fun y c h => ?_, e0.hok.fresh (Nat.le_refl _), fun y c h => ?_, fun p hp => absurd (show p ∈ ([] : List (Addr × Obj)) from hp) (by simp), e0.hok.kept hk, ?_⟩
  · have q1 : ∀ (y : Str) (c : Addr), ([(("__class__" : Str), cc)] : List (Str × Addr)).lookup y = some c → y = "__class__" := fun y c h => by
      simp only [List.lookup] at h
      split at h
      · rename_i e; exact of_decide_eq_true (by simpa using e)
      · cases h
    rw [q1 y c h1, q1 z c h2]
  · have hy : scope.names.lookup y = some .cell ∨ scope.names.lookup y = some .free := hy
    rcases hy with hy | hy
    · exact absurd rfl (S.nocell _ (PySem.mem_of_lookup hy))
    · rw [S.free y hy]
      exact ⟨cc, rfl⟩
  · have hi : i < vs.length := by
      unfold L2.start at h2
      by_cases hi : i < vs.length
      · exact hi
      · rw [List.getElem?_append_right (by simpa using hi)] at h2
        rw [List.getElem?_replicate] at h2
        split at h2 <;> cases h2
    have ha : vs[i]? = some v := by
      unfold L2.start at h2
      rw [List.getElem?_append_left (by simpa using hi), List.getElem?_map] at h2
      cases e : vs[i]? with
      | none => rw [e] at h2; cases h2
      | some a => rw [e] at h2; cases h2; rfl
    obtain ⟨u, hu, rv⟩ := r.get ha
    have hp : ps[i]? = some y := by
      rw [← S.pre, List.getElem?_take_of_lt (by omega)]; exact h1
    have ndP : ps.Nodup := by rw [← S.pre]; exact S.nd.sublist (List.take_sublist _ _)
    exact ⟨u, rv, .inl ⟨S.par y (List.mem_of_getElem? hp), zip_rev ndP (by rw [← hl, r.length]; exact Nat.le_refl _) hp hu⟩⟩
  · rw [cellOf y c h]
    exact ⟨v0, _, hk _ _ (e0.bs _ _ ccb).1, rfl⟩
  · rw [cellOf y c h]
    exact (e0.bs _ _ ccb).2
  · unfold L2.start
    show _ = N.length
    rw [List.length_append, List.length_map, List.length_replicate]
    omega

/-- what stands of the class C and of its __init__ at f -/
structure ExcF (P : Program) (K : PySem.W.Frag) (C f : Addr) (name qual : Str) (params : Arguments) (body : List Stmt) (scope : Scope) (fd : FuncData) : Prop where
  T : OexC K C
  ex : ∃ (oc : Value) (od : Option Addr) (kV doc pm : Value) (an : Option Addr) (cda cc : Addr) (ct : Value) (osl : Array (Option Value)) (ccl : Value) (cdd : Option Addr) (vs : Array Value) (ccs : Array (Option Value)) (file : Str) (tf : Tok) (cl : Value) (cld : Option Addr) (csl : Array (Option Value)),
    fd = ksFn name qual params body scope .none kV doc pm an (.ref cda) ct cc ∧ K.lookup f = some ⟨oc, od, .func fd, osl⟩ ∧ PySem.W.codeIn K (.ref cda) qual = true ∧ K.lookup cda = some ⟨ccl, cdd, .fields vs, ccs⟩ ∧ vs[2]? = some (.str file tf) ∧ ((P.main.file : Str) == file) = true ∧
    K.lookup cc = some ⟨cl, cld, .cell (some (.ref C)), csl⟩
  sub : mroIn K C (.ref C) = some true
  nosup : nsIn K mainGlobals "super" = some none
  ini : ks_superIn K C C "__init__" = some (some (.builtin "ValueError.__init__"))
  val : subIn K (.ref C) (.type "ValueError") = some true
  stat : nsIn K cStatics "thirdparty.any" = some none
  top : (P.main.scope.names.lookup ("super" : Str)).isSome = false

section
variable {P : Program} {w : World} {K : PySem.W.Frag} {mg : Str → Option Value} {base : Heap} {C f : Addr} {name qual : Str} {params : Arguments} {body rest : List Stmt} {scope : Scope} {fd : FuncData} {N ps : List Str} {CX : CXT} {k : Nat}
/-- the spec of such an __init__: self.f.. = what the rest's reading says, behind super().__init__(text) -/
theorem exc_init {sp : Sp} {eArg : Expr} {p0 p1 p2 p3 p4 : Pos} {ar : Arg} (G : ExcF P K C f name qual params body scope fd) (S : SupScope N ps scope) (hp : (params.posonlyargs ++ params.args).head? = some ar) (hself : ps[0]? = some ar.arg)
    (hbody : body = .Expr (.Call (.Attribute (.Call (.Name "super" p0) [] [] p1) "__init__" p2) [eArg] [] p3) p4 :: rest)
    (len : ∀ vs H Q E, sp vs H Q E → vs.length = ps.length)
    (hrd : ∀ (cdv : Value) (cc : Addr) (A : Around) (outer : List Env) (s : Shared) (H : Hp) (vs : List V) (Q : VK) (E : XK), Room k (A.deeper (ksEnv qual scope s.heap.objs.size f cdv cc)) → sp vs H Q E →
      ∃ a te tr, vs[0]? = some (.ref a) ∧ H a = some (exo a C none) ∧ PE (cxS CX P w K mg base N qual scope f cdv cc A outer s H E) eArg te ∧ PSs (cxS CX P w K mg base N qual scope f cdv cc A outer s H E) rest tr ∧
        te (L2.start N vs) H fun w H1 => (∃ w0, [w] = [w0]) ∧ H1 a = some (exo a C none) ∧ tr { nx := fun _ H' => Q .non H', rt := Q } (L2.start N vs) H1)
    (hst : ∀ env, starEach [eArg] env = [(false, eval eArg env)]) (hst0 : ∀ env pos, (backTo pos (starEach [] env)).any (·.1) = false := by intro _ _; rfl)
    (hsw : ∀ env, swapsWith (.Call (.Attribute (.Call (.Name "super" p0) [] [] p1) "__init__" p2) [eArg] [] p3) none p4.line env = pure false := by intro _; rfl)
    {pl : Env → Sem Bool} (hev : ∀ env, eval (.Call (.Attribute (.Call (.Name "super" p0) [] [] p1) "__init__" p2) [eArg] [] p3) env = (do
      let ov ← attributeBase (.Call (.Name "super" p0) [] [] p1) "__init__" env (eval (.Call (.Name "super" p0) [] [] p1) env)
      standAt p2.atName
      let (f, first) ← holding [ov] (getMethod ov "__init__" (pl env))
      callWith p3 f first (backTo p3 (starEach [eArg] env)) []) := by intro _; rfl) : FnOk P w K mg base CX (k + 1) f fd ps sp := by
  obtain ⟨oc, od, kV, doc, pm, an, cda, cc, ct, osl, ccl, cdd, vsC, ccs, file, tf, cl, cld, csl, rfl, lk, hcd, hcode, hvs, hfile, hcell⟩ := G.ex
  subst hbody
  refine ⟨len, fun A outer s H args us vs Q E hr e0 hb r hsp => ?_⟩
  have hl := len _ _ _ _ hsp
  have KX : K.In s.heap := e0.mod.kin.keeps fun b o e => (e0.bs b o e).1
  have lim : s.heap.NoLimit := e0.mod.nolimit.keeps fun b o e => (e0.bs b o e).1
  refine ks_codeAny_call_defAt (fd := ksFn name qual params _ scope .none kV doc pm an (.ref cda) ct cc) hr.depth (KX _ _ lk) rfl lim (codeRec_of KX hcd) rfl hb S.nocell (fun y hy => S.par y.1 (List.of_mem_zip hy).1) (fun h₀ hns hk => ?_) S.co S.gen S.kind
  have I := inv_startS (CX := CX) (qual := qual) (f := f) (cd := .ref cda) (E := E) (tk := s.toks + (ps.zip us).length) S hr.hd e0 hl r hcell hns hk
  obtain ⟨a, te, tr, hv0, ha, he, hr', q⟩ := hrd (.ref cda) cc A outer s H vs Q E (hr.deeper _) hsp
  have X₁ : K.In h₀ := I.kIn
  have hpsl : ps.length ≤ us.length := by rw [← hl, r.length]; exact Nat.le_refl _
  have ndP : ps.Nodup := by rw [← S.pre]; exact S.nd.sublist (List.take_sublist _ _)
  obtain ⟨u0, hu0, ru0⟩ := r.get hv0
  obtain rfl : u0 = Value.ref a := ru0
  have hm0 : (ps.zip us).reverse.lookup ar.arg = some (.ref a) := zip_rev ndP hpsl hself hu0
  obtain ⟨t1, hoa⟩ := exo_at I.hok ha
  obtain ⟨cdC, hcd1⟩ : ∃ cd, clsIn K C = some cd := by
    obtain ⟨nm, q, N', bs, bm, sn, sub, ab, col, dd, k0, k1, k2, k3, k5, hC, hbm⟩ := G.T.cls
    exact ⟨_, by unfold PySem.W.clsIn; rw [hC] <;> rfl⟩
  obtain ⟨oD, hD1, hD2⟩ : ∃ oD, h₀.get? C = some oD ∧ oD.data = .cls cdC := by
    unfold clsIn at hcd1
    split at hcd1
    · rename_i c d cd' sl ho
      cases hcd1
      exact ⟨_, X₁ _ _ ho, rfl⟩
    · cases hcd1
  have hka : scope.names.lookup ar.arg = some .local := S.par _ (List.mem_of_getElem? hself)
  refine ks_wpAt_execs_cons (ks_wpAt_Expr_any (ks_wpAt_MethodCall (pl := pl _) (ks_wpAt_super_base (env := ksEnv qual scope s.heap.objs.size f (.ref cda) cc) S.sup S.cls rfl rfl (X₁ _ _ lk) rfl hp rfl (X₁ _ _ hcode) rfl hvs hfile G.top ?_) (hev _)) I.quiet (hsw _))
  have hg : h₀.Ns mainGlobals mg := I.mod.glob.keeps I.bk
  obtain ⟨mb, hmb1, hmb2⟩ := I.mod.blt
  refine ks_loadName_global S.kind S.sup (Calls.loadGlobal_builtin (env := ksEnv qual scope s.heap.objs.size f (.ref cda) cc) hg (PySem.W.mg_none_of X₁ hg G.nosup) (hmb1.keeps I.bk) ((hmb2 _ (by decide +kernel)).trans (by decide +kernel : bootBuiltins "super" = some (.type "super"))) ⟨rfl, ?_⟩)
  refine wpAny_loadName_free S.kind S.cls rfl ⟨_, X₁ _ _ hcell, rfl⟩ ?_
  refine wpAny_loadName_local S.kind hka hns hm0 ?_
  refine ks_wpAny_isType_cls hD1 hD2 ⟨rfl, ?_⟩
  obtain ⟨t1k, hs1⟩ : ∃ t, t = s.toks + (ps.zip us).length := ⟨_, rfl⟩
  have hnc : ∀ c', ({ cls := .ref C, dict := none, data := .fields #[.ref t1, .none, .none, .none, .bool false, .none] } : Obj).data ≠ .cls c' := fun c' z => nomatch z
  refine ks_wpAny_call_super hD1 hD2 hoa rfl hnc (looks_mroIn X₁ G.sub) (fun h' eso k' => ?_)
  have I2 : Inv (cxS CX P w K mg base N qual scope f (.ref cda) cc A outer s H E) [] (L2.start N vs) H { s with heap := h', toks := s.toks + (ps.zip us).length } := I.kept (t' := s.toks + (ps.zip us).length) (h' := h') fun b o e => k' b o e
  have X₂ : K.In h' := I2.kIn
  have hini : (clsIn K C).bind (fun cd => alongIn K "__init__" ((cd.mro.dropWhile (· != .ref C)).drop 1)) = some (some (.builtin "ValueError.__init__")) := G.ini
  rw [hcd1] at hini
  have hoa2 := k' _ _ hoa
  have hI : Looks (model P w) h' (isInstance (.ref a) (.type "ValueError")) true := (PySem.W.InstAt.type (od := none) (M := model P w) ⟨hoa2, rfl, rfl, trivial⟩).andThen (looks_subIn X₂ G.val)
  have hxC : a ≠ C := fun z => by
    rw [z, k' _ _ hD1] at hoa2
    cases hoa2
    cases hD2
  refine kxs_getMethod kxs_ValueError eso (looks_opaque X₂ G.stat) (l₀ := cdC.mro) (fun A Q E s k q => wpAny_bind ((looks_clsIn X₂ hcd1) A _ E s k (wpAny_pure q))) rfl X₂ hini hI hxC (by decide +kernel) ?_
  have I2a : Inv (cxS CX P w K mg base N qual scope f (.ref cda) cc A outer s H E) [] (L2.start N vs) H { s with heap := h'.push (kxs_mw "ValueError.__init__" a), toks := s.toks + (ps.zip us).length + 1 } :=
    I2.kept (t' := s.toks + (ps.zip us).length + 1) (h' := h'.push (kxs_mw "ValueError.__init__" a)) fun b o e => Heap.get?_push_of_some _ e
  have hlt : s.heap.objs.size ≤ h'.objs.size := I2.sz
  have hltL : s.heap.objs.size < h'.objs.size := I2.lt
  have pinOk : ∀ p ∈ [(h'.objs.size, kxs_mw "ValueError.__init__" a)], (h'.push (kxs_mw "ValueError.__init__" a)).get? p.1 = some p.2 ∧ H p.1 = none ∧ p.1 ≠ (cxS CX P w K mg base N qual scope f (.ref cda) cc A outer s H E).env.locals ∧ p.1 ∉ (cxS CX P w K mg base N qual scope f (.ref cda) cc A outer s H E).fs ∧ ∀ v, p.2.data ≠ .cell v := fun p hp' => by
    obtain rfl := List.mem_singleton.mp hp'
    refine ⟨Heap.get?_push_size _ rfl, I2.hok.fresh (Nat.le_refl _), Nat.ne_of_gt hltL, I2.nofs (Nat.le_refl _), fun v z => nomatch z⟩
  have I3 := I2a.pins_of pinOk
  have pst : ∀ l, backTo p3 (starEach [eArg] (cxS CX P w K mg base N qual scope f (.ref cda) cc A outer s H E).env) = l → True := fun _ _ => True.intro
  have PAe : PA (cxS CX P w K mg base N qual scope f (.ref cda) cc A outer s H E) [eArg] (tCons te tNil) := pa_cons he pa_nil (by rw [hst]; rfl)
  refine kxs_callWith (i := "ValueError.__init__") (x := a) (by rw [hst]; rfl) ?_
  have hspl := PAe.run p3 _ _ _ H _ I3 (show tCons te tNil (L2.start N vs) H (fun ws H1 => (∃ w0, ws = [w0]) ∧ H1 a = some (exo a C none) ∧ tr { nx := fun _ H' => Q .non H', rt := Q } (L2.start N vs) H1) from ?_)
  · rw [hst] at hspl ⊢
    refine Calls.evalArgs_plain (wpAny_mono hspl (fun us' s₁ hh => ?_) fun _ _ z => z)
    obtain ⟨ws, H1, I4, r4, ⟨w0, hw⟩, ha1, q4⟩ := hh
    have hu4 := (I4.pin (h'.objs.size, kxs_mw "ValueError.__init__" a) (List.mem_append_right _ (List.mem_singleton.mpr rfl))).1
    refine ⟨hu4, ?_⟩
    subst hw
    have hlen : us'.length ≤ sizeLine := by rw [← Paired.length r4, sizeLine_eq]; show 1 ≤ 16777216; decide
    obtain ⟨t2, hoe⟩ := exo_at I4.hok ha1
    obtain ⟨nm, q', N', bs, bm, sn, sub, ab, col, dd, k0, k1, k2, k3, k5, hC, hbm⟩ := G.T.cls
    have hC4 := I4.kIn _ _ hC
    obtain ⟨h4, g4, d4, tk4, os4⟩ := s₁
    have FB := PySem.F.excBase_ValueError
    show wpAny _ _ (call (.ref h'.objs.size) us') _ _ _
    refine wpAny_call (codeAny_of_tree ?_)
    show wpAny _ _ (callAny (.ref h'.objs.size) ⟨us', []⟩) _ _ _
    simp only [callAny]
    refine wpAny_bind (wpAny_load hu4 ?_)
    simp only [kxs_mw, show (Value.type "method-wrapper" == Value.type "method" || Value.type "method-wrapper" == Value.type "builtin_function_or_method" || Value.type "method-wrapper" == Value.type "method-wrapper") = true by decide, if_true]
    refine KFB.if_so (by decide) ?_
    refine wpAny_bind (check_bound_init FB.toExcCallFacts hC4 hoe rfl ?_)
    refine wpAny_bind (wpAny_pure (wpAny_pure ?_))
    refine ⟨plainId_quiet FB.init.plain _, codeAny_builtin FB.initEntry ?_⟩
    refine exc_init_tree (cls := .ref C) (t0 := t2) (dv := none) (c2 := .none) (c3 := .none) (b4 := .bool false) hoe hlen fun h5 k5 hx5 _ => ?_
    have J := I4.write (t' := tk4) (x := a) (e := a) (o := exo a C none) (by rw [ha1]; exact True.intro) (.inl rfl) k5 ⟨_, hx5⟩ (exo_ok hx5)
    have eu : upd H1 a (exo a C none) = H1 := by
      funext b
      by_cases hb : b = a
      · rw [hb, upd_same, ha1]
      · rw [upd_ne hb]
    rw [eu] at J
    have J0 := J.pins_of (pins' := []) fun p hp' => (nomatch hp')
    have fin : ∀ {σ' : St} {H' : Hp} {v : V} {u : Value} {s' : Shared}, Inv (cxS CX P w K mg base N qual scope f (.ref cda) cc A outer s H E) [] σ' H' s' → RelV v u → Q v H' → CE outer P w H s Q u s' :=
      fun {σ' H' v u s'} J rv q => ⟨v, H', J.os, J.bare, J.base, J.hok, rv, q⟩
    refine wpAt_of_wpAny (wpAny_mono (hr'.run [] _ _ _ _ J0 q4) (fun fl s' hs => ?_) fun e s' hs => hs)
    cases fl with
    | ret u =>
      obtain ⟨v, σ', H', J, rv, q⟩ := hs
      exact fin J rv q
    | next =>
      obtain ⟨σ', H', J, q⟩ := hs
      exact fin (v := V.non) (u := Value.none) J rfl q
    | brk =>
      obtain ⟨_, _, _, q⟩ := hs
      exact False.elim q
    | cont =>
      obtain ⟨_, _, _, q⟩ := hs
      exact False.elim q
  · exact q
end
end LVX


set_option Elab.async false
set_option linter.all false
set_option maxRecDepth 100000
set_option maxHeartbeats 1000000
namespace LV
open PySem PySem.Spec L2

/-! ### own exceptions with one field -/
def spX1 (C : Addr) (f : Str) : Sp := fun vs H Q _ => ∃ (a : Addr) (v : V), vs = [.ref a, v] ∧ H a = some (exo a C none) ∧ ∀ d, H d = none → d ≠ a → Q .non (upd (upd H d (exd d [(f, v)])) a (exo a C (some d)))
/-- how the text super().__init__(e) is read; by rfl at the text -/
def SupEv (p0 p1 p2 p3 : Pos) (e : Expr) (pl : Env → Sem Bool) : Prop := ∀ env, eval (.Call (.Attribute (.Call (.Name "super" p0) [] [] p1) "__init__" p2) [e] [] p3) env = (do
      let ov ← attributeBase (.Call (.Name "super" p0) [] [] p1) "__init__" env (eval (.Call (.Name "super" p0) [] [] p1) env)
      standAt p2.atName
      let (f, first) ← holding [ov] (getMethod ov "__init__" (pl env))
      callWith p3 f first (backTo p3 (starEach [e] env)) [])
def SupSw (p0 p1 p2 p3 p4 : Pos) (e : Expr) : Prop := ∀ env, swapsWith (.Call (.Attribute (.Call (.Name "super" p0) [] [] p1) "__init__" p2) [e] [] p3) none p4.line env = pure false
theorem exc1 {P : Program} {w : World} {K : PySem.W.Frag} {mg : Str → Option Value} {base : Heap} {C fI : Addr} {name qual : Str} {params : Arguments} {body : List Stmt} {scope : Scope} {fd : FuncData} {p f msg : Str} {CX : CXT} {j : Nat} {pl : Env → Sem Bool} {p0 p1 p2 p3 p4 p5 p6 p7 p8 p9 p10 : Pos} {ar : Arg}
    (G : LVX.ExcF P K C fI name qual params body scope fd) (S : LVX.SupScope ["self", p] ["self", p] scope) (hp : (params.posonlyargs ++ params.args).head? = some ar) (hself : ar.arg = "self")
    (hbody : body = [.Expr (.Call (.Attribute (.Call (.Name "super" p0) [] [] p1) "__init__" p2) [.Constant (.str msg) j p3] [] p4) p5, .Assign [.Attribute (.Name "self" p6) f p7] (.Name p p8) p9])
    (hno : PySem.W.findIn K (.ref C) f = some none) (hpd : (p == ("__debug__" : Str)) = false) (hpc : (p == ("__classdict__" : Str)) = false)
    (hev : SupEv p0 p1 p2 p4 (.Constant (.str msg) j p3) pl) (hsw : SupSw p0 p1 p2 p4 p5 (.Constant (.str msg) j p3)) : FnOk P w K mg base CX 1 fI fd ["self", p] (spX1 C f) := by
  refine LVX.exc_init (hev := hev) (hsw := hsw) (k := 0) G S hp (by rw [hself]; rfl) hbody (fun vs H Q E ⟨a, v, h, _⟩ => by rw [h]; rfl) (fun cdv cc A outer s H vs Q E hr ⟨a, v, hvs, ha, q⟩ => ?_) (fun _ => rfl)
  subst hvs
  refine ⟨a, _, _, rfl, ha, pe_str, pss_one (ps_ost (pe_var (i := 0) rfl (.inl (S.par _ (by simp)))) (pe_var (i := 1) rfl (.inl (S.par _ (by simp))) hpd hpc)), ⟨_, rfl⟩, ha, ?_⟩
  exact ⟨v, rfl, .ref a, rfl, a, C, rfl, G.T, hno, .inl ⟨ha, fun dx n ne => q dx n ne⟩⟩

/-- the class named Cn, its field f -/
structure XC (P : Program) (w : World) (K : PySem.W.Frag) (mg : Str → Option Value) (base : Heap) (Cn f : Str) : Prop where
  ex : ∃ (C fI : Addr) (fd : FuncData) (p : Str), mg Cn = some (.ref C) ∧ OexC K C ∧ PySem.W.findIn K (.ref C) "__init__" = some (some (.ref fI)) ∧ PySem.W.typeIn K (.ref fI) = some (.type "function") ∧
    FnOk P w K mg base (L2.CX P w) 1 fI fd ["self", p] (spX1 C f) ∧ Binds K fd ["self", p] []
section
variable {X : Cx} {c : Ct} {W : WX} {e : Expr} {es : List Expr} {wl : AW} {pos pos' p : Pos} {Cn f : Str} {body suite : List Stmt} {wb : SW}
/-- raise Cn(e) -/
def wRaise1 (Cn f : Str) (wl : AW) : SW := fun K env => wl env (fun rs e => ∃ d e2, frzL e rs = some ([d], e2) ∧ K.ex ⟨Cn, [f], [d]⟩ e2) K.ex
theorem ss_raise1 (T : XC X.prog X.w X.K X.mg X.base Cn f) (hc : X.calm = true) (tk : Takes X W) (hr : Room 2 X.A) (hg : Gl X Cn) (ha : SA X c W [e] wl) (hdb : (Cn == ("__debug__" : Str)) = false := by decide)
    (he : starEach [e] X.env = (false, eval e X.env) :: starEach [] X.env := by rfl) (hpl : (backTo pos' (starEach [] X.env)).any (·.1) = false := by rfl) :
    SS X c W (.Raise (some (.Call (.Name Cn p) [e] [] pos')) none pos) (wRaise1 Cn f wl) := by
  obtain ⟨C, fI, fd, pp, hm, To, iC, tI, F1, hb⟩ := T.ex
  refine ⟨PS.imp (ps_raise hc tk (pmk_oex (pos := pos') (p := p) To iC tI F1 hr hb .nil passL hg hm ha.pa hdb he hpl)) fun D σ H q => ?_, ⟨fun k q => ha.mo.mo (fun _ _ ⟨d, e2, a, z⟩ => ⟨d, e2, a, k.ex _ _ z⟩) (fun _ _ z => k.ex _ _ z) q⟩⟩
  obtain ⟨F, env, R, q⟩ := q
  refine ⟨F, env, R, ha.mo.mo (fun rs e1 ⟨d, e2, hf, z⟩ => ?_) (fun _ _ z => z.xp) q⟩
  intro vs F1 H1 R1 ev1 ok
  obtain ⟨F2, R2, ev2, rl⟩ := frzL_ok R1 ok hf
  cases rl with
  | @cons v _ _ _ rv rl =>
    cases rl
    refine ⟨by show 1 ≤ 1000; decide, fun a hna => ⟨a, v, rfl, upd_same, fun dd hd hda => ⟨rfl, dd, [(f, v)], ?_, ?_, ?_, ?_⟩⟩⟩
    · rw [upd_same]
    · rw [upd_ne hda, upd_same]
    · rw [upd_ne hda] at hd; exact hd
    · rw [upd_ne hda] at hd
      have hdF : F2 dd = none := R2.sub.free hd
      have eH : upd (del (upd (upd (upd H1 a (exo a C none)) dd (exd dd [(f, v)])) a (exo a C (some dd))) a) dd (.xd [(f, v)]) = upd H1 dd (.xd [(f, v)]) := by
        funext b
        by_cases hb1 : b = dd
        · rw [hb1, upd_same, upd_same]
        · rw [upd_ne hb1, upd_ne hb1]
          by_cases hb2 : b = a
          · rw [hb2, del_same, hna]
          · rw [del_ne hb2, upd_ne hb2, upd_ne hb1, upd_ne hb2]
      rw [eH]
      have ev3 := Evo.newF (o := HO.xd [(f, v)]) hd hdF
      exact z _ _ σ _ _ (R2.evo ev3 (same_newF R2.sub hd)) ((ev1.trans ev2).trans ev3.nob) ⟨C, hm, rfl, .inr ⟨dd, [(f, v)], rfl, upd_same, rfl, .cons (rv.same ev3.fs) .nil⟩⟩

/-! ### try .. except X as n -/
def noEx : En → Bool
  | [] => true
  | some (.ex _ _ _ _) :: _ => false
  | _ :: r => noEx r
theorem noEx_get : ∀ {env : En} {i : Nat} {a : Addr} {C : Str} {ks : List Str} {vs : List D}, noEx env = true → env[i]? = some (some (.ex a C ks vs)) → False
  | [], i, _, _, _, _, _, e => by simp at e
  | none :: r, 0, _, _, _, _, h, e => by simp at e
  | none :: r, i + 1, _, _, _, _, h, e => noEx_get (env := r) (i := i) h (by simpa using e)
  | some (.fz _) :: r, 0, _, _, _, _, h, e => by simp at e
  | some (.fz _) :: r, i + 1, _, _, _, _, h, e => noEx_get (env := r) (i := i) h (by simpa using e)
  | some (.ow _) :: r, 0, _, _, _, _, h, e => by simp at e
  | some (.ow _) :: r, i + 1, _, _, _, _, h, e => noEx_get (env := r) (i := i) h (by simpa using e)
  | some (.ex _ _ _ _) :: r, _, _, _, _, _, h, _ => nomatch h
/-- the ends of an except suite: the name goes -/
def KsSu (i : Nat) (K : Ks) : Ks where
  nx := fun e => noEx (e.set i none) = true ∧ K.nx (e.set i none)
  rt := fun r e => noEx (e.set i none) = true ∧ K.rt r (e.set i none)
  bk := fun e => noEx (e.set i none) = true ∧ K.bk (e.set i none)
  ct := fun e => noEx (e.set i none) = true ∧ K.ct (e.set i none)
  ex := fun _ _ => False
def wTryAs (wb : SW) (catch_ : Str → Option Bool) (i : Nat) (ws : SW) : SW := fun K env => wb { K with ex := fun x e => noEx e = true ∧ ∃ b, catch_ x.C = some b ∧ if b = true then ∀ a, ws (KsSu i K) (e.set i (some (.ex a x.C x.ks x.vs))) else K.ex x e } env
theorem Rel.setEx {M : Md} {F H : Hp} {σ : St} {env : En} {i : Nat} {a : Addr} {x : Xn} {cl : Value} {d : Option Addr} (R : Rel M c F H σ env) (hi : i ∉ c.pn) (n : noEx env = true) (xo : XOk M F x cl d) :
    Rel M { c with xc := fun a' c' d' => a' = a ∧ c' = cl ∧ d' = d } F H (σ.set i (some (.ref a))) (env.set i (some (.ex a x.C x.ks x.vs))) := by
  have key : ∀ {j : Nat} {v : Val}, (env.set i (some (.ex a x.C x.ks x.vs)))[j]? = some (some v) → (i = j ∧ v = .ex a x.C x.ks x.vs ∧ i < env.length) ∨ (i ≠ j ∧ env[j]? = some (some v)) := fun {j v} h => by
    by_cases e : i = j
    · subst e
      by_cases hl : i < env.length
      · rw [List.getElem?_set_self hl] at h; cases h; exact .inl ⟨rfl, rfl, hl⟩
      · rw [List.getElem?_eq_none (by rw [List.length_set]; omega)] at h; cases h
    · rw [List.getElem?_set_ne e] at h; exact .inr ⟨e, h⟩
  refine ⟨R.sub, by rw [List.length_set, List.length_set]; exact R.len, fun j d h => ?_, fun j o h => ?_, fun j b C ks vs h => ?_, fun j k o u p h1 h2 h3 h4 => ?_, fun j hj => ?_, R.old, fun j o p h hn hp => ?_⟩
  · rcases key h with ⟨_, z, _⟩ | ⟨e, h⟩
    · cases z
    · rw [List.getElem?_set_ne e]; exact R.fz j d h
  · rcases key h with ⟨_, z, _⟩ | ⟨e, h⟩
    · cases z
    · rw [List.getElem?_set_ne e]; exact R.ow j o h
  · rcases key h with ⟨e, z, hl⟩ | ⟨e, h⟩
    · cases z
      subst e
      rw [List.getElem?_set_self (by rw [← R.len]; exact hl)]
      exact ⟨rfl, cl, d, ⟨rfl, rfl, rfl⟩, xo⟩
    · exact (noEx_get n h).elim
  · rcases key h1 with ⟨_, z, _⟩ | ⟨e1, h1⟩
    · cases z
    · rcases key h2 with ⟨_, z, _⟩ | ⟨e2, h2⟩
      · cases z
      · rw [List.getElem?_set_ne e1] at h3
        rw [List.getElem?_set_ne e2] at h4
        exact R.sep j k o u p h1 h2 h3 h4
  · have : i ≠ j := fun z => hi (z ▸ hj)
    rw [List.getElem?_set_ne this]; exact R.pin j hj
  · rcases key h with ⟨_, z, _⟩ | ⟨e, h⟩
    · cases z
    · rw [List.getElem?_set_ne e] at hp; exact R.fr j o p h hn hp
theorem own_setEx {σ : St} {env : En} {i : Nat} {v : V} {a : Addr} {C : Str} {ks : List Str} {vs : List D} : ∀ b, Own (σ.set i (some v)) (env.set i (some (.ex a C ks vs))) b → Own σ env b := fun b ⟨j, o, h1, h2⟩ => by
  by_cases e : i = j
  · subst e
    by_cases hl : i < env.length
    · rw [List.getElem?_set_self hl] at h1; cases h1
    · rw [List.getElem?_eq_none (by rw [List.length_set]; omega)] at h1; cases h1
  · rw [List.getElem?_set_ne e] at h1 h2
    exact ⟨j, o, h1, h2⟩
/-- back from a suite: slot i is forgotten in both -/
theorem Rel.unEx {M : Md} {F H : Hp} {σ : St} {env : En} {i : Nat} {xc : Addr → Value → Option Addr → Prop} (R : Rel M { c with xc := xc } F H σ env) (hi : i ∉ c.pn) (n : noEx (env.set i none) = true) : Rel M c F H (σ.set i none) (env.set i none) := by
  have key : ∀ {j : Nat} {v : Val}, (env.set i none)[j]? = some (some v) → i ≠ j ∧ env[j]? = some (some v) := fun {j v} h => by
    by_cases e : i = j
    · subst e
      by_cases hl : i < env.length
      · rw [List.getElem?_set_self hl] at h; cases h
      · rw [List.getElem?_eq_none (by rw [List.length_set]; omega)] at h; cases h
    · rw [List.getElem?_set_ne e] at h; exact ⟨e, h⟩
  refine ⟨R.sub, by rw [List.length_set, List.length_set]; exact R.len, fun j d h => ?_, fun j o h => ?_, fun j b C ks vs h => (noEx_get n h).elim, fun j k o u p h1 h2 h3 h4 => ?_, fun j hj => ?_, R.old, fun j o p h hn hp => ?_⟩
  · obtain ⟨e, h⟩ := key h
    rw [List.getElem?_set_ne e]; exact R.fz j d h
  · obtain ⟨e, h⟩ := key h
    rw [List.getElem?_set_ne e]; exact R.ow j o h
  · obtain ⟨e1, h1⟩ := key h1
    obtain ⟨e2, h2⟩ := key h2
    rw [List.getElem?_set_ne e1] at h3
    rw [List.getElem?_set_ne e2] at h4
    exact R.sep j k o u p h1 h2 h3 h4
  · have : i ≠ j := fun z => hi (z ▸ hj)
    rw [List.getElem?_set_ne this]; exact R.pin j hj
  · obtain ⟨e, h⟩ := key h
    rw [List.getElem?_set_ne e] at hp; exact R.fr j o p h hn hp
theorem own_unEx {σ : St} {env : En} {i : Nat} : ∀ b, Own (σ.set i none) (env.set i none) b → Own σ env b := fun b ⟨j, o, h1, h2⟩ => by
  by_cases e : i = j
  · subst e
    by_cases hl : i < env.length
    · rw [List.getElem?_set_self hl] at h1; cases h1
    · rw [List.getElem?_eq_none (by rw [List.length_set]; omega)] at h1; cases h1
  · rw [List.getElem?_set_ne e] at h1 h2
    exact ⟨j, o, h1, h2⟩
/-- what the rule needs of the classes that may fly -/
def Catches (K : PySem.W.Frag) (mg : Str → Option Value) (cv : Value) (catch_ : Str → Option Bool) : Prop := ∀ Cn b C, catch_ Cn = some b → mg Cn = some (.ref C) → PySem.W.exmOne K (.ref C) cv = some b
theorem ss_tryAs {x n : Str} {cv : Value} {i : Nat} {b₀ : Stmt} {np : Pos} {ws : SW} {catch_ : Str → Option Bool} (hs : X.stack = X.env :: X.outer) (hf : X.env.frame = some X.env.locals) (hN : X.N.Nodup) (hi : X.N[i]? = some n) (hln : X.env.kindOf n = some .local) (hc : Names X x cv) (tk : Takes X W)
    (hip : i ∉ c.pn) (hca : Catches X.K X.mg cv catch_) (mb : MonoS wb) (ms : MonoS ws)
    (hb : ∀ (W' : WX) (pn : List (Addr × Obj)) (xe : Value → Shared → Prop), Takes (X.tr pn xe) W' → PassesOwn (model X.prog X.w) X.A X.env xe → SSs (X.tr pn xe) c W' body wb)
    (hsu : ∀ (a : Addr) (oe : Obj) (cls : Value) (d : Option Addr) (pn : List (Addr × Obj)), Zc cls d oe → (∃ vs, oe.data = .fields vs) → SSs (X.suite a ((a, oe) :: pn)) { c with xc := fun a' c' d' => a' = a ∧ c' = cls ∧ d' = d } W0 (b₀ :: suite) ws) :
    SS X c W (.Try body [.ExceptHandler (some (.Name x np)) (some n) (b₀ :: suite) pos'] [] [] pos) (wTryAs wb catch_ i ws) := by
  refine ⟨PS.imp (ps_try_as hs hf hN hi hln hc tk (tb := fun W' => SRd (mdX X) c W' wb) (ts := fun a cls d => SRd (mdX X) { c with xc := fun a' c' d' => a' = a ∧ c' = cls ∧ d' = d } W0 ws) (fun W' pn xe tk' hp => (hb W' pn xe tk' hp).ps) (fun a oe cls d pn hz hd => (hsu a oe cls d pn hz hd).ps)) fun D σ H q => ?_,
    ⟨fun {K K' env} k q => mb.mo (K := { K with ex := fun x e => noEx e = true ∧ ∃ b, catch_ x.C = some b ∧ if b = true then ∀ a, ws (KsSu i K) (e.set i (some (.ex a x.C x.ks x.vs))) else K.ex x e }) ⟨k.nx, k.rt, k.bk, k.ct, fun x e ⟨n, b, h, z⟩ => ⟨n, b, h, ?_⟩⟩ q⟩⟩
  · obtain ⟨F, env, R, q⟩ := q
    refine ⟨F, env, R, mb.mo (K := { KsOf (mdX X) c W D F H σ env with ex := fun x e => noEx e = true ∧ ∃ b, catch_ x.C = some b ∧ if b = true then ∀ a, ws (KsSu i (KsOf (mdX X) c W D F H σ env)) (e.set i (some (.ex a x.C x.ks x.vs))) else (KsOf (mdX X) c W D F H σ env).ex x e }) ⟨fun _ z => z, fun _ _ z => z, fun _ z => z, fun _ z => z, fun xx e ⟨n, b, hcb, z⟩ => ?_⟩ q⟩
    intro cl d σ' F' H' R' ev xo
    obtain ⟨C, hmC, hcl, hx⟩ := id xo
    refine ⟨b, by rw [hcl]; exact hca _ _ _ hcb hmC, fun hbt a hna => ?_, fun hbf => ?_⟩
    · rw [if_pos hbt] at z
      have R2 := R'.setEx (a := a) hip n xo
      have ev2 := ev.trans (Evo.sub (own_setEx (σ := σ') (env := e) (i := i) (v := .ref a) (a := a) (C := xx.C) (ks := xx.ks) (vs := xx.vs)))
      refine ⟨F', _, R2, ms.mo (K := KsSu i (KsOf (mdX X) c W D F H σ env)) ⟨fun e2 z => ?_, fun r e2 z => ?_, fun e2 z => ?_, fun e2 z => ?_, fun _ _ z => z.elim⟩ (z a)⟩
      · intro σ3 F3 H3 R3 ev3
        exact z.2 _ F3 H3 (R3.unEx hip z.1) ((ev2.trans ev3).trans (Evo.sub own_unEx))
      · intro v σ3 F3 H3 R3 ev3 ok
        refine z.2 v _ F3 H3 (R3.unEx hip z.1) ((ev2.trans ev3).trans (Evo.sub own_unEx)) ?_
        cases r with
        | fz d => exact ok
        | sl j => exact ok
        | ow o =>
          obtain ⟨p, a1, a2, a3, a4, a5⟩ := ok
          exact ⟨p, a1, a2, a3, fun zz => a4 (own_unEx p zz), a5⟩
      · intro σ3 F3 H3 R3 ev3
        exact z.2 _ F3 H3 (R3.unEx hip z.1) ((ev2.trans ev3).trans (Evo.sub own_unEx))
      · intro σ3 F3 H3 R3 ev3
        exact z.2 _ F3 H3 (R3.unEx hip z.1) ((ev2.trans ev3).trans (Evo.sub own_unEx))
    · rw [hbf, if_neg Bool.false_ne_true] at z
      exact z cl d σ' F' H' R' ev xo
  · cases b with
    | true =>
      rw [if_pos rfl] at z ⊢
      exact fun a => ms.mo (K := KsSu i K) ⟨fun _ ⟨a, b⟩ => ⟨a, k.nx _ b⟩, fun _ _ ⟨a, b⟩ => ⟨a, k.rt _ _ b⟩, fun _ ⟨a, b⟩ => ⟨a, k.bk _ b⟩, fun _ ⟨a, b⟩ => ⟨a, k.ct _ b⟩, fun _ _ z => z⟩ (z a)
    | false =>
      rw [if_neg Bool.false_ne_true] at z ⊢
      exact k.ex _ _ z
/-- n.f, n the caught exception in slot i, of the class named Cn -/
def kvD : List Str → List D → Str → Option D
  | k :: ks, v :: vs, f => if f = k then some v else kvD ks vs f
  | _, _, _ => none
def wExA (i : Nat) (Cn f : Str) : EW := fun env Q _ => match env[i]? with
  | some (some (.ex a C ks vs)) => C = Cn ∧ ∃ d, kvD ks vs f = some d ∧ Q (.fz d) env
  | _ => False
theorem Mono.exA {i : Nat} {Cn f : Str} : Mono (wExA i Cn f) := ⟨fun {env Q Q' E E'} hQ hE h => by
  unfold wExA at h ⊢
  split at h
  · obtain ⟨a, d, b, q⟩ := h; exact ⟨a, d, b, hQ _ _ q⟩
  · exact h⟩
theorem kvD_get {M : Md} {F : Hp} : ∀ {fv : List (Str × V)} {ks : List Str} {vs : List D} {f : Str} {d : D}, fv.map (·.1) = ks → RepL M F (fv.map (·.2)) vs → kvD ks vs f = some d → ∃ v, fv.lookup f = some v ∧ Rep M F v d
  | [], ks, vs, f, d, h1, h2, h => by subst h1; simp [kvD] at h
  | (g, u) :: fv, ks, vs, f, d, h1, h2, h => by
    subst h1
    cases h2 with
    | cons r rl =>
      rw [List.map_cons] at h
      unfold kvD at h
      rw [lookup_put]
      by_cases e : f = g
      · rw [if_pos e] at h ⊢; cases h; exact ⟨u, rfl, r⟩
      · rw [if_neg e] at h ⊢; exact kvD_get rfl rl h
theorem se_exA {a : Addr} {oe : Obj} {cls : Value} {d : Option Addr} {pn : List (Addr × Obj)} {C : Addr} {i : Nat} {n : Str} {pos : Pos} {px : Pos} {nm : Str} {c' : Ct} (hxc : c'.xc = fun a' c' d' => a' = a ∧ c' = cls ∧ d' = d) (T : XfC X.K C) (hm : X.mg Cn = some (.ref C)) (hno : PySem.W.findIn X.K (.ref C) n = some none) (hz : Zc cls d oe) (hf : ∃ vs, oe.data = .fields vs)
    (hN : X.N[i]? = some nm) (hv : Vis X.env.scope nm) (hdb : (nm == ("__debug__" : Str)) = false := by decide) (hcd : (nm == ("__classdict__" : Str)) = false := by decide) (hb : attributeBase (.Name nm px) n X.env (eval (.Name nm px) X.env) = eval (.Name nm px) X.env := by rfl) :
    SE (X.suite a ((a, oe) :: pn)) c' W0 (.Attribute (.Name nm px) n pos) (wExA i Cn n) := by
  refine ⟨PE.imp (pe_xf T hno hz hf (pe_var (X := X.suite a ((a, oe) :: pn)) hN hv hdb hcd) hb) fun σ H Q h => ?_, .exA⟩
  obtain ⟨F, env, R, h⟩ := h
  unfold wExA at h
  split at h
  · rename_i a' C' ks vs hex
    obtain ⟨hC, dd, hk, q⟩ := h
    obtain ⟨h1, cl, d', h2, C2, h3, h4, h5⟩ := R.ex i a' C' ks vs hex
    rw [hxc] at h2
    obtain ⟨rfl, rfl, rfl⟩ := h2
    subst hC
    have h3' : X.mg C' = some (.ref C2) := h3
    rw [hm] at h3'
    have eC : C = C2 := by injection h3' with e; injection e
    subst eC
    rcases h5 with ⟨_, z1, z2⟩ | ⟨ax, fv, e1, e2, e3, e4⟩
    · have z1' : ks = [] := z1
      subst z1'
      simp [kvD] at hk
    · obtain ⟨v, l, rv⟩ := kvD_get e3 e4 hk
      exact ⟨_, h1, rfl, h4, ax, fv, v, e1, R.sub _ _ e2, l, q v F H R Evo.refl rv⟩
  · exact h.elim
end
end LV


set_option Elab.async false
set_option linter.all false
set_option maxRecDepth 100000
set_option maxHeartbeats 1000000
namespace LV
open PySem PySem.Spec L2

/-! ### data that == knows -/
mutual
def D.pd : D → PyData
  | .non => .none
  | .bl b => .bool b
  | .int i => .int i
  | .str x => .str x
  | .tup ds => .tuple (pdL ds)
  | .lst ds => .list (pdL ds)
  | .scr ns => .list (ns.map PyData.int)
  | .dct _ _ => .dict []
  | .ins _ _ _ => .dict []
def pdL : List D → List PyData
  | [] => []
  | d :: ds => d.pd :: pdL ds
end
mutual
/-- plain data: no dict, no instance -/
def D.plain : D → Bool
  | .tup ds => plainL ds
  | .lst ds => plainL ds
  | .dct _ _ => false
  | .ins _ _ _ => false
  | _ => true
def plainL : List D → Bool
  | [] => true
  | d :: ds => d.plain && plainL ds
end
theorem dp_ints {M : Md} {H : Hp} : ∀ ns : List Int, DpAll M.K H (ns.map V.int) (ns.map PyData.int)
  | [] => .nil
  | n :: ns => .cons (.int n) (dp_ints ns)
section
variable {M : Md} {F H : Hp}
mutual
theorem Rep.dp (s : Same F H) : ∀ {v : V} {d : D}, Rep M F v d → d.plain = true → Dp M.K H v d.pd
  | _, _, .non, _ => .non
  | _, _, .bl b, _ => .bl b
  | _, _, .int i, _ => .int i
  | _, _, .str x, _ => .str x
  | _, _, .tup h r, p => .tup (Same.sqT s h) (RepL.dp s r p)
  | _, _, .lst h r, p => .lst (.inl (.inl (s _ _ h))) (RepL.dp s r p)
  | _, .scr ns, .scr h, _ => .lst (s.seq h) (dp_ints ns)
  | _, _, .dK h e r, p => nomatch p
  | _, _, .ins g h e r, p => nomatch p
theorem RepL.dp (s : Same F H) : ∀ {vs : List V} {ds : List D}, RepL M F vs ds → plainL ds = true → DpAll M.K H vs (pdL ds)
  | _, _, .nil, _ => .nil
  | _, _, .cons h r, p => .cons (Rep.dp s h (Bool.and_eq_true_iff.mp p).1) (RepL.dp s r (Bool.and_eq_true_iff.mp p).2)
end
theorem Vw.dp (s : Same F H) {v : V} {d : D} (h : Vw M F H v d) (p : d.plain = true) : Dp M.K H v d.pd := by
  cases d with
  | non => cases h; exact .non
  | bl b => cases h; exact .bl b
  | int i => cases h; exact .int i
  | str x => cases h; exact .str x
  | tup ds => obtain ⟨a, xs, rfl, h1, h2⟩ := h; exact .tup (Same.sqT (Same.refl _) h1 |> fun z => Same.sqT s z) (RepL.dp s h2 p)
  | lst ds => obtain ⟨a, xs, rfl, h1, h2⟩ := h; exact .lst (.inl (.inl h1)) (RepL.dp s h2 p)
  | scr ns => obtain ⟨a, rfl, h1⟩ := h; exact .lst h1 (dp_ints ns)
  | dct _ _ => cases p
  | ins _ _ _ => cases p
end
/-- what == asks of its sides -/
def D.okE (d : D) : Bool := d.plain && SeqAt.shaped d.pd
def eqvD (a b : D) : Bool := PyData.eqv a.pd b.pd
def gEq : G2 := fun a b Q => a.okE = true ∧ b.okE = true ∧ Q (.fz (.bl (eqvD a b)))
def gNe : G2 := fun a b Q => a.okE = true ∧ b.okE = true ∧ Q (.fz (.bl (!eqvD a b)))
theorem D.okE_plain {d : D} (h : d.okE = true) : d.plain = true := (Bool.and_eq_true_iff.mp h).1
theorem D.okE_shaped {d : D} (h : d.okE = true) : SeqAt.shaped d.pd = true := (Bool.and_eq_true_iff.mp h).2
section
variable {X : Cx}
theorem VR2.of {f : Value → Value → Sem Value} {g : G2} {r : R2} (ho : OpR X f r) (m : Mono2 g)
    (h : ∀ F da db x y H Qv, Same F H → Vw (mdX X) F H x da → Vw (mdX X) F H y db → g da db (NPost (mdX X) F H Qv) → r x y H Qv) : VR2 X f g :=
  ⟨fun pins s σ H x y v u Q I rx ry ⟨F, da, db, sm, vx, vy, q⟩ => ho pins s σ H x y v u Q I rx ry (h F da db x y H Q sm vx vy q), m⟩
theorem vr_eq (hu : X.A.units + 64 < cLine) : VR2 X (compareOp .Eq) gEq :=
  .of (op_eqD hu) ⟨fun h ⟨a, b, q⟩ => ⟨a, b, h _ q⟩⟩ fun F da db x y H Qv sm vx vy ⟨h1, h2, q⟩ => ⟨_, _, Vw.dp sm vx (D.okE_plain h1), Vw.dp sm vy (D.okE_plain h2), D.okE_shaped h1, D.okE_shaped h2, q.here sm (.bl _)⟩
theorem vr_ne (hu : X.A.units + 64 < cLine) : VR2 X (compareOp .NotEq) gNe :=
  .of (op_neD hu) ⟨fun h ⟨a, b, q⟩ => ⟨a, b, h _ q⟩⟩ fun F da db x y H Qv sm vx vy ⟨h1, h2, q⟩ => ⟨_, _, Vw.dp sm vx (D.okE_plain h1), Vw.dp sm vy (D.okE_plain h2), D.okE_shaped h1, D.okE_shaped h2, q.here sm (.bl _)⟩

/-! ### in -/
def inD (x : D) : D → Option Bool
  | .tup ds => some ((pdL ds).any fun z => PyData.eqv z x.pd)
  | .lst ds => some ((pdL ds).any fun z => PyData.eqv z x.pd)
  | .scr ns => some ((ns.map PyData.int).any fun z => PyData.eqv z x.pd)
  | _ => none
def gIn : G2 := fun a b Q => a.okE = true ∧ b.okE = true ∧ ∃ k, inD a b = some k ∧ Q (.fz (.bl k))
def gNotIn : G2 := fun a b Q => a.okE = true ∧ b.okE = true ∧ ∃ k, inD a b = some k ∧ Q (.fz (.bl (!k)))
def rInA (K : PySem.W.Frag) (neg : Bool) : R2 := fun x y H Q => ∃ d e ds, Dp K H x d ∧ Dp K H y e ∧ (e = .list ds ∨ e = .tuple ds) ∧ SeqAt.shaped d = true ∧ SeqAt.shaped e = true ∧ Q (.bl (if neg then !(ds.any fun z => PyData.eqv z d) else ds.any fun z => PyData.eqv z d)) H
theorem op_inA (hu : X.A.units + 65 < cLine) : OpR X (compareOp .In) (rInA X.K false) := by
  intro pins s σ H x y v u Q I rx ry h
  obtain ⟨d, e, ds, hd, he, hk, sd, se, q⟩ := h
  obtain ⟨as, r1⟩ := Dp.reads I d x v hd rx
  rcases hk with rfl | rfl
  · obtain ⟨bs, r2⟩ := Dp.reads I (.list ds) y u he ry
    exact SeqAt.in_list_reads r2 r1 (SeqAt.canLay_of_shaped se) (SeqAt.canLay_of_shaped sd) (PyProof.Rows.room_in_shaped sd hu) ⟨.bl _, H, I, rfl, q⟩
  · obtain ⟨bs, r2⟩ := Dp.reads I (.tuple ds) y u he ry
    exact SeqAt.in_tuple_reads r2 r1 (SeqAt.canLay_of_shaped se) (SeqAt.canLay_of_shaped sd) (PyProof.Rows.room_in_shaped sd hu) ⟨.bl _, H, I, rfl, q⟩
theorem op_notInA (hu : X.A.units + 65 < cLine) : OpR X (compareOp .NotIn) (rInA X.K true) := by
  intro pins s σ H x y v u Q I rx ry h
  obtain ⟨d, e, ds, hd, he, hk, sd, se, q⟩ := h
  obtain ⟨as, r1⟩ := Dp.reads I d x v hd rx
  rcases hk with rfl | rfl
  · obtain ⟨bs, r2⟩ := Dp.reads I (.list ds) y u he ry
    exact SeqAt.notIn_list_reads r2 r1 (SeqAt.canLay_of_shaped se) (SeqAt.canLay_of_shaped sd) (PyProof.Rows.room_in_shaped sd hu) ⟨.bl _, H, I, rfl, q⟩
  · obtain ⟨bs, r2⟩ := Dp.reads I (.tuple ds) y u he ry
    exact SeqAt.notIn_tuple_reads r2 r1 (SeqAt.canLay_of_shaped se) (SeqAt.canLay_of_shaped sd) (PyProof.Rows.room_in_shaped sd hu) ⟨.bl _, H, I, rfl, q⟩
theorem inD_pd {x e : D} {k : Bool} (h : inD x e = some k) : ∃ ds, (e.pd = .list ds ∨ e.pd = .tuple ds) ∧ k = ds.any fun z => PyData.eqv z x.pd := by
  cases e with
  | tup ds => cases h; exact ⟨_, .inr rfl, rfl⟩
  | lst ds => cases h; exact ⟨_, .inl rfl, rfl⟩
  | scr ns => cases h; exact ⟨_, .inl rfl, rfl⟩
  | _ => cases h
theorem vr_in (hu : X.A.units + 65 < cLine) : VR2 X (compareOp .In) gIn :=
  .of (op_inA hu) ⟨fun h ⟨a, b, k, e, q⟩ => ⟨a, b, k, e, h _ q⟩⟩ fun F da db x y H Qv sm vx vy ⟨h1, h2, k, e, q⟩ => by
    obtain ⟨ds, e1, e2⟩ := inD_pd e
    exact ⟨_, _, ds, Vw.dp sm vx (D.okE_plain h1), Vw.dp sm vy (D.okE_plain h2), e1, D.okE_shaped h1, D.okE_shaped h2, by rw [if_neg Bool.false_ne_true, ← e2]; exact q.here sm (.bl _)⟩
theorem vr_notIn (hu : X.A.units + 65 < cLine) : VR2 X (compareOp .NotIn) gNotIn :=
  .of (op_notInA hu) ⟨fun h ⟨a, b, k, e, q⟩ => ⟨a, b, k, e, h _ q⟩⟩ fun F da db x y H Qv sm vx vy ⟨h1, h2, k, e, q⟩ => by
    obtain ⟨ds, e1, e2⟩ := inD_pd e
    exact ⟨_, _, ds, Vw.dp sm vx (D.okE_plain h1), Vw.dp sm vy (D.okE_plain h2), e1, D.okE_shaped h1, D.okE_shaped h2, by rw [if_pos rfl, ← e2]; exact q.here sm (.bl _)⟩

/-! ### is None -/
def isN : D → Bool
  | .non => true
  | _ => false
def gIsN : G2 := fun a b Q => b = .non ∧ Q (.fz (.bl (isN a)))
def gIsNotN : G2 := fun a b Q => b = .non ∧ Q (.fz (.bl (!isN a)))
theorem isN_vw {M : Md} {F H : Hp} {v : V} {d : D} (h : Vw M F H v d) : decide (v = .non) = isN d := by
  cases d with
  | non => cases h; rfl
  | bl b => cases h; rfl
  | int b => cases h; rfl
  | str b => cases h; rfl
  | tup ds => obtain ⟨a, xs, rfl, _⟩ := h; rfl
  | lst ds => obtain ⟨a, xs, rfl, _⟩ := h; rfl
  | scr ds => obtain ⟨a, rfl, _⟩ := h; rfl
  | dct ks ds => obtain ⟨a, rfl, _⟩ := h; rfl
  | ins C ks ds => obtain ⟨a, rfl, _⟩ := h; rfl
theorem vr_isN : VR2 X (compareOp .Is) gIsN :=
  .of op_isN ⟨fun h ⟨a, q⟩ => ⟨a, h _ q⟩⟩ fun F da db x y H Qv sm vx vy ⟨h1, q⟩ => by
    subst h1; exact ⟨vy, by rw [isN_vw vx]; exact q.here sm (.bl _)⟩
theorem vr_isNotN : VR2 X (compareOp .IsNot) gIsNotN :=
  .of op_notN ⟨fun h ⟨a, q⟩ => ⟨a, h _ q⟩⟩ fun F da db x y H Qv sm vx vy ⟨h1, q⟩ => by
    subst h1; exact ⟨vy, by rw [isN_vw vx]; exact q.here sm (.bl _)⟩
end
end LV


set_option Elab.async false
set_option linter.all false
set_option maxRecDepth 100000
set_option maxHeartbeats 1000000
namespace LV
open PySem PySem.Spec L2

/-! ### tuples' order -/
def ltI : List Int → List Int → Bool
  | [], [] => false
  | [], _ :: _ => true
  | _ :: _, [] => false
  | x :: xs, y :: ys => if x = y then ltI xs ys else decide (x < y)
def leI : List Int → List Int → Bool
  | [], _ => true
  | _ :: _, [] => false
  | x :: xs, y :: ys => if x = y then leI xs ys else decide (x ≤ y)
theorem lexAt_shift {e r e' r' : Nat → Bool} {z : Bool} : ∀ (k i : Nat), (∀ j, e (i + 1 + j) = e' (i + j)) → (∀ j, r (i + 1 + j) = r' (i + j)) → Ob.lexAt e r z (i + 1) k = Ob.lexAt e' r' z i k
  | 0, i, _, _ => rfl
  | k + 1, i, h1, h2 => by
    rw [Ob.lexAt_succ, Ob.lexAt_succ]
    have a1 := h1 0
    have a2 := h2 0
    simp only [Nat.add_zero] at a1 a2
    rw [a1, a2, lexAt_shift k (i + 1) (fun j => by have := h1 (j + 1); rwa [show i + 1 + (j + 1) = i + 1 + 1 + j by omega, show i + (j + 1) = i + 1 + j by omega] at this)
      (fun j => by have := h2 (j + 1); rwa [show i + 1 + (j + 1) = i + 1 + 1 + j by omega, show i + (j + 1) = i + 1 + j by omega] at this)]
theorem lexAt_lt : ∀ ns ms : List Int, Ob.lexAt (fun j => decide (ns.getD j 0 = ms.getD j 0)) (fun j => decide (ns.getD j 0 < ms.getD j 0)) (decide (ns.length < ms.length)) 0 (min ns.length ms.length) = ltI ns ms
  | [], [] => rfl
  | [], _ :: _ => by simp [Ob.lexAt, ltI]
  | _ :: _, [] => by simp [Ob.lexAt, ltI]
  | n :: ns, m :: ms => by
    rw [List.length_cons, List.length_cons, show min (ns.length + 1) (ms.length + 1) = min ns.length ms.length + 1 by omega, Ob.lexAt_succ, show ltI (n :: ns) (m :: ms) = if n = m then ltI ns ms else decide (n < m) from rfl]
    simp only [List.getD_cons_zero]
    by_cases h : n = m
    · rw [if_pos h, if_pos (decide_eq_true h), show decide (ns.length + 1 < ms.length + 1) = decide (ns.length < ms.length) from by simp, ← lexAt_lt ns ms]
      exact lexAt_shift _ 0 (fun j => by rw [show 0 + 1 + j = (0 + j) + 1 by omega]; simp) (fun j => by rw [show 0 + 1 + j = (0 + j) + 1 by omega]; simp)
    · rw [if_neg h, if_neg (by simpa using h)]
theorem lexAt_le : ∀ ns ms : List Int, Ob.lexAt (fun j => decide (ns.getD j 0 = ms.getD j 0)) (fun j => decide (ns.getD j 0 ≤ ms.getD j 0)) (decide (ns.length ≤ ms.length)) 0 (min ns.length ms.length) = leI ns ms
  | [], [] => rfl
  | [], _ :: _ => by simp [Ob.lexAt, leI]
  | _ :: _, [] => by simp [Ob.lexAt, leI]
  | n :: ns, m :: ms => by
    rw [List.length_cons, List.length_cons, show min (ns.length + 1) (ms.length + 1) = min ns.length ms.length + 1 by omega, Ob.lexAt_succ, show leI (n :: ns) (m :: ms) = if n = m then leI ns ms else decide (n ≤ m) from rfl]
    simp only [List.getD_cons_zero]
    by_cases h : n = m
    · rw [if_pos h, if_pos (decide_eq_true h), show decide (ns.length + 1 ≤ ms.length + 1) = decide (ns.length ≤ ms.length) from by simp, ← lexAt_le ns ms]
      exact lexAt_shift _ 0 (fun j => by rw [show 0 + 1 + j = (0 + j) + 1 by omega]; simp) (fun j => by rw [show 0 + 1 + j = (0 + j) + 1 by omega]; simp)
    · rw [if_neg h, if_neg (by simpa using h)]
section
variable {X : Cx}
/-- one order operator on tuples of ints -/
def rOrd (K : PySem.W.Frag) (f : List Int → List Int → Bool) : R2 := fun x y H Q => ∃ (a b : Addr) (ns ms : List Int), x = .ref a ∧ y = .ref b ∧ SqT K H a (ns.map V.int) ∧ SqT K H b (ms.map V.int) ∧ Q (.bl (f ns ms)) H
theorem op_ordT {op : CmpOp} {r : Int → Int → Bool} {z : Nat → Nat → Bool} {f : List Int → List Int → Bool}
    (rule : ∀ {s : Shared} {l b : Addr} {items items2 : Array Value} {e r : Nat → Bool}, s.heap.IsTuple l items → s.heap.IsTuple b items2 → X.A.units < cLine →
      (∀ j (h1 : j < items.size) (h2 : j < items2.size), SeqAt.EqAt X.A.in1 s items[j] items2[j] (e j)) → (∀ j (h1 : j < items.size) (h2 : j < items2.size), e j = false → Ob.RcOp op X.A.in1 s items[j] items2[j] (r j)) →
      Ob.RcOp op X.A s (.ref l) (.ref b) (Ob.lexAt e r (z items.size items2.size) 0 (min items.size items2.size)))
    (base : ∀ (A : Around) (s : Shared) (a b : Int) (t u : Tok), Ob.RcOp op A s (.int a t) (.int b u) (r a b))
    (hf : ∀ ns ms : List Int, Ob.lexAt (fun j => decide (ns.getD j 0 = ms.getD j 0)) (fun j => r (ns.getD j 0) (ms.getD j 0)) (z ns.length ms.length) 0 (min ns.length ms.length) = f ns ms)
    (hr : ∀ (a b : Value) (s : Shared) (Q E : Value → Shared → Prop), wpAny (model X.prog X.w) X.A (richCompare op a b) Q E s → wpAny (model X.prog X.w) X.A (compareOp op a b) Q E s)
    (hu : X.A.units < cLine) : OpR X (compareOp op) (rOrd X.K f) := by
  intro pins s σ H x y v u Q I rx ry h
  obtain ⟨a, b, ns, ms, rfl, rfl, ha, hb, q⟩ := h
  cases rx
  cases ry
  obtain ⟨its, r1, p1, _⟩ := I.tuple ha
  obtain ⟨its2, r2, p2, _⟩ := I.tuple hb
  have i1 : PyProof.Rows.IntsAre its ns := Vals.ints r1
  have i2 : PyProof.Rows.IntsAre its2 ms := Vals.ints r2
  have e1 : its.toArray.size = ns.length := by rw [List.size_toArray]; exact i1.length
  have e2 : its2.toArray.size = ms.length := by rw [List.size_toArray]; exact i2.length
  have at1 : ∀ j (h1 : j < its.toArray.size), ∃ t, its.toArray[j] = .int (ns.getD j 0) t := fun j h1 => PyProof.Rows.IntsAre.int_at i1 _ _ (by simp at h1; simp [h1])
  have at2 : ∀ j (h1 : j < its2.toArray.size), ∃ t, its2.toArray[j] = .int (ms.getD j 0) t := fun j h1 => PyProof.Rows.IntsAre.int_at i2 _ _ (by simp at h1; simp [h1])
  have R := rule (s := s) (e := fun j => decide (ns.getD j 0 = ms.getD j 0)) (r := fun j => r (ns.getD j 0) (ms.getD j 0)) p1 p2 hu (fun j h1 h2 => by
    obtain ⟨t, et⟩ := at1 j h1
    obtain ⟨t', et'⟩ := at2 j h2
    rw [et, et']
    have z : (ns.getD j 0 == ms.getD j 0) = decide (ns.getD j 0 = ms.getD j 0) := by
      by_cases q : ns.getD j 0 = ms.getD j 0
      · rw [decide_eq_true q]; exact beq_iff_eq.mpr q
      · rw [decide_eq_false q]; exact beq_eq_false_iff_ne.mpr q
    rw [← z]
    exact SeqAt.EqAt.int_int _ _ _ _) (fun j h1 h2 _ => by
    obtain ⟨t, et⟩ := at1 j h1
    obtain ⟨t', et'⟩ := at2 j h2
    rw [et, et']
    exact base _ _ _ _ _ _)
  rw [e1, e2, hf] at R
  exact hr _ _ _ _ _ (R X.prog X.w X.xe (EP X pins σ Q) ⟨.bl _, H, I, rfl, q⟩)
theorem lexAt_not {e r : Nat → Bool} {z : Bool} (h : ∀ j, e j = false → True) : ∀ (k i : Nat), Ob.lexAt e r z i k = Ob.lexAt e r z i k := fun _ _ => rfl
theorem op_ltT' (hu : X.A.units < cLine) : OpR X (compareOp .Lt) (rOrd X.K ltI) :=
  op_ordT (z := fun a b => decide (a < b)) (fun h1 h2 h3 h4 h5 => Ob.RcOp.tuples_lt h1 h2 h3 h4 h5) (fun _ _ => Ob.RcOp.lt_int) lexAt_lt (fun _ _ _ _ _ h => h) hu
theorem op_leT' (hu : X.A.units < cLine) : OpR X (compareOp .LtE) (rOrd X.K leI) :=
  op_ordT (z := fun a b => decide (a ≤ b)) (fun h1 h2 h3 h4 h5 => Ob.RcOp.tuples_le h1 h2 h3 h4 h5) (fun _ _ => Ob.RcOp.le_int) lexAt_le (fun _ _ _ _ _ h => h) hu
theorem lexAt_gt (ns ms : List Int) : Ob.lexAt (fun j => decide (ns.getD j 0 = ms.getD j 0)) (fun j => decide (ms.getD j 0 < ns.getD j 0)) (decide (ns.length > ms.length)) 0 (min ns.length ms.length) = ltI ms ns := by
  rw [← lexAt_lt ms ns, Nat.min_comm]
  congr 1
  funext j
  exact decide_eq_decide.mpr eq_comm
theorem lexAt_ge (ns ms : List Int) : Ob.lexAt (fun j => decide (ns.getD j 0 = ms.getD j 0)) (fun j => decide (ms.getD j 0 ≤ ns.getD j 0)) (decide (ns.length ≥ ms.length)) 0 (min ns.length ms.length) = leI ms ns := by
  rw [← lexAt_le ms ns, Nat.min_comm]
  congr 1
  funext j
  exact decide_eq_decide.mpr eq_comm
theorem op_gtT' (hu : X.A.units < cLine) : OpR X (compareOp .Gt) (rOrd X.K fun a b => ltI b a) :=
  op_ordT (z := fun a b => decide (a > b)) (fun h1 h2 h3 h4 h5 => Ob.RcOp.tuples_gt h1 h2 h3 h4 h5) (fun _ _ => Ob.RcOp.gt_int) lexAt_gt (fun _ _ _ _ _ h => h) hu
theorem op_geT' (hu : X.A.units < cLine) : OpR X (compareOp .GtE) (rOrd X.K fun a b => leI b a) :=
  op_ordT (z := fun a b => decide (a ≥ b)) (fun h1 h2 h3 h4 h5 => Ob.RcOp.tuples_ge h1 h2 h3 h4 h5) (fun _ _ => Ob.RcOp.ge_int) lexAt_ge (fun _ _ _ _ _ h => h) hu
/-- an order operator: ints by p, tuples of ints by f -/
def gOrd (p : Int → Int → Bool) (f : List Int → List Int → Bool) : G2 := fun a b Q =>
  (∃ i j, a = .int i ∧ b = .int j ∧ Q (.fz (.bl (p i j)))) ∨ (∃ ns ms, a = .tup (ns.map D.int) ∧ b = .tup (ms.map D.int) ∧ Q (.fz (.bl (f ns ms))))
theorem Vw.tupI {M : Md} {F H : Hp} {v : V} {ns : List Int} (sm : Same F H) (h : Vw M F H v (.tup (ns.map D.int))) : ∃ a, v = .ref a ∧ SqT M.K H a (ns.map V.int) := by
  obtain ⟨a, xs, rfl, h1, h2⟩ := h
  rw [RepL.ints h2] at h1
  exact ⟨a, rfl, Same.sqT sm h1⟩
theorem Mono2.ord {p : Int → Int → Bool} {f : List Int → List Int → Bool} : Mono2 (gOrd p f) :=
  ⟨fun h q => q.elim (fun ⟨i, j, a, b, q⟩ => .inl ⟨i, j, a, b, h _ q⟩) (fun ⟨i, j, a, b, q⟩ => .inr ⟨i, j, a, b, h _ q⟩)⟩
theorem orR {f : Value → Value → Sem Value} {r r' : R2} (h : OpR X f r) (h' : OpR X f r') : OpR X f (fun x y H Q => r x y H Q ∨ r' x y H Q) := by
  intro pins s σ H x y v u Q I rx ry q
  rcases q with q | q
  · exact h pins s σ H x y v u Q I rx ry q
  · exact h' pins s σ H x y v u Q I rx ry q
theorem vr_ord {op : CmpOp} {p : Int → Int → Bool} {f : List Int → List Int → Bool} (h1 : OpR X (compareOp op) (rI0 fun i j => .bl (p i j))) (h2 : OpR X (compareOp op) (rOrd X.K f)) : VR2 X (compareOp op) (gOrd p f) :=
  .of (orR h1 h2) .ord fun F da db x y H Qv sm vx vy q => by
    rcases q with ⟨i, j, rfl, rfl, q⟩ | ⟨ns, ms, rfl, rfl, q⟩
    · exact .inl ⟨i, j, vx, vy, q.here sm (.bl _)⟩
    · obtain ⟨a, rfl, ha⟩ := Vw.tupI sm vx
      obtain ⟨b, rfl, hb⟩ := Vw.tupI sm vy
      exact .inr ⟨a, b, ns, ms, rfl, rfl, ha, hb, q.here sm (.bl _)⟩
def gLt : G2 := gOrd (fun i j => decide (i < j)) ltI
def gLe : G2 := gOrd (fun i j => decide (i ≤ j)) leI
def gGt : G2 := gOrd (fun i j => decide (j < i)) (fun a b => ltI b a)
def gGe : G2 := gOrd (fun i j => decide (j ≤ i)) (fun a b => leI b a)
theorem vr_lt (hu : X.A.units < cLine) : VR2 X (compareOp .Lt) gLt := vr_ord op_lt (op_ltT' hu)
theorem vr_le (hu : X.A.units < cLine) : VR2 X (compareOp .LtE) gLe := vr_ord op_le (op_leT' hu)
theorem vr_gt (hu : X.A.units < cLine) : VR2 X (compareOp .Gt) gGt := vr_ord op_gt (op_gtT' hu)
theorem vr_ge (hu : X.A.units < cLine) : VR2 X (compareOp .GtE) gGe := vr_ord op_ge (op_geT' hu)

/-! ### + - * // % ** -/
def gAdd : G2 := fun a b Q => match a, b with
  | .int i, .int j => Q (.fz (.int (i + j)))
  | .str x, .str y => x.length + y.length ≤ sizeLine ∧ Q (.fz (.str (x ++ y)))
  | .tup xs, .tup ys => xs.length + ys.length ≤ sizeLine ∧ Q (.fz (.tup (xs ++ ys)))
  | .lst xs, .lst ys => xs.length + ys.length ≤ sizeLine ∧ Q (.ow (.lst (xs ++ ys)))
  | _, _ => False
theorem Mono2.add : Mono2 gAdd := ⟨fun {a b Q Q'} h q => by
  unfold gAdd at q ⊢
  split at q <;> first | exact h _ q | exact ⟨q.1, h _ q.2⟩ | exact q⟩
theorem vr_add : VR2 X (binaryOp .Add) gAdd :=
  .of (orR (orR op_add op_add_str) (orR op_catA op_cat)) .add fun F da db x y H Qv sm vx vy q => by
    unfold gAdd at q
    split at q
    · cases vx; cases vy; exact .inl (.inl ⟨_, _, rfl, rfl, q.here sm (.int _)⟩)
    · cases vx; cases vy; exact .inl (.inr ⟨_, _, rfl, rfl, q.1, q.2.here sm (.str _)⟩)
    · obtain ⟨a, xs, rfl, h1, h2⟩ := vx
      obtain ⟨b, ys, rfl, h3, h4⟩ := vy
      refine .inr (.inl ⟨a, b, xs, ys, rfl, rfl, Same.sqT sm h1, Same.sqT sm h3, by rw [h2.length, h4.length]; exact q.1, fun e => ?_, fun _ e => ?_, fun _ _ p hp => q.2.newT sm (h2.append h4) hp⟩)
      · subst e; cases h2; exact q.2.here sm (.tup h3 h4)
      · subst e; cases h4; rw [List.append_nil] at q; exact q.2.here sm (.tup h1 h2)
    · obtain ⟨a, xs, rfl, h1, h2⟩ := vx
      obtain ⟨b, ys, rfl, h3, h4⟩ := vy
      exact .inr (.inr ⟨a, b, xs, ys, rfl, rfl, h1, h3, by rw [h2.length, h4.length]; exact q.1, fun p hp => q.2.newL sm (h2.append h4) hp⟩)
    · exact q.elim
def gInt (C : Int → Int → Prop) (g : Int → Int → Int) : G2 := fun a b Q => ∃ i j, a = .int i ∧ b = .int j ∧ C i j ∧ Q (.fz (.int (g i j)))
theorem Mono2.int {C : Int → Int → Prop} {g : Int → Int → Int} : Mono2 (gInt C g) := ⟨fun h ⟨i, j, a, b, c, q⟩ => ⟨i, j, a, b, c, h _ q⟩⟩
theorem vr_int {f : Value → Value → Sem Value} {C : Int → Int → Prop} {g : Int → Int → Int} (h : OpR X f (rI C fun i j => .int (g i j))) : VR2 X f (gInt C g) :=
  .of h .int fun F da db x y H Qv sm vx vy ⟨i, j, e1, e2, hc, q⟩ => by subst e1 e2; exact ⟨i, j, vx, vy, hc, q.here sm (.int _)⟩
def gSub : G2 := gInt (fun _ _ => True) (· - ·)
def gMod : G2 := gInt (fun _ j => j ≠ 0) Int.fmod
def gPow : G2 := gInt CPow fun i j => i ^ j.toNat
def CDvA (i j : Int) : Prop := j ≠ 0 ∧ Builtin.divisionGoesByPylong i j = false
def gDiv : G2 := gInt CDvA Int.fdiv
theorem vr_sub : VR2 X (binaryOp .Sub) gSub := vr_int (opI fun _ _ _ _ _ _ _ _ q => PyProof.Rows.sub_int q)
theorem vr_mod : VR2 X (binaryOp .Mod) gMod := vr_int op_modN
theorem vr_pow : VR2 X (binaryOp .Pow) gPow := vr_int op_pow
theorem vr_div : VR2 X (binaryOp .FloorDiv) gDiv := vr_int (opI fun _ _ _ _ _ _ _ hc q => PyProof.Rows.floordiv_int hc.1 q (.inl hc.2))
def gMul : G2 := fun a b Q => match a, b with
  | .int i, .int j => CMulX i j ∧ Q (.fz (.int (i * j)))
  | .tup xs, .int k => xs ≠ [] ∧ 2 ≤ k ∧ k ≤ 1000 ∧ xs.length ≤ 1000 ∧ Q (.fz (.tup (List.replicate k.toNat xs).flatten))
  | .lst xs, .int k => -(2 ^ 63) ≤ k ∧ k < 2 ^ 63 ∧ xs.length * k.toNat ≤ sizeLine ∧ Q (.ow (.lst (List.replicate k.toNat xs).flatten))
  | _, _ => False
theorem Mono2.mul : Mono2 gMul := ⟨fun {a b Q Q'} h q => by
  unfold gMul at q ⊢
  split at q
  · exact ⟨q.1, h _ q.2⟩
  · exact ⟨q.1, q.2.1, q.2.2.1, q.2.2.2.1, h _ q.2.2.2.2⟩
  · exact ⟨q.1, q.2.1, q.2.2.1, h _ q.2.2.2⟩
  · exact q⟩
theorem RepL.repl {M : Md} {F : Hp} {xs : List V} {ds : List D} (r : RepL M F xs ds) : ∀ n : Nat, RepL M F (List.replicate n xs).flatten (List.replicate n ds).flatten
  | 0 => .nil
  | n + 1 => by
    rw [List.replicate_succ, List.replicate_succ, List.flatten_cons, List.flatten_cons]
    exact r.append (RepL.repl r n)
theorem vr_mul : VR2 X (binaryOp .Mult) gMul :=
  .of (orR op_mulX (orR op_repT op_rep)) .mul fun F da db x y H Qv sm vx vy q => by
    unfold gMul at q
    split at q
    · cases vx; cases vy; exact .inl ⟨_, _, rfl, rfl, q.1, q.2.here sm (.int _)⟩
    · obtain ⟨a, xs, rfl, h1, h2⟩ := vx
      cases vy
      obtain ⟨n1, n2, n3, n4, q⟩ := q
      exact .inr (.inl ⟨a, _, xs, rfl, rfl, Same.sqT sm h1, fun z => n1 (by subst z; cases h2; rfl), n2, n3, by rw [h2.length]; exact n4, fun p hp => q.newT sm (h2.repl _) hp⟩)
    · obtain ⟨a, xs, rfl, h1, h2⟩ := vx
      cases vy
      obtain ⟨n1, n2, n3, q⟩ := q
      exact .inr (.inr ⟨a, _, xs, rfl, rfl, h1, n1, n2, by rw [h2.length]; exact n3, fun p hp => q.newL sm (h2.repl _) hp⟩)
    · exact q.elim

/-! ### a[i] -/
theorem RepL.atI {M : Md} {F : Hp} {xs : List V} {ds : List D} (r : RepL M F xs ds) {i : Int} {d : D} (h : atI ds i = some d) : ∃ v, L2.atI xs i = some v ∧ Rep M F v d := by
  unfold L2.atI at h ⊢
  rw [r.length]
  cases e : ixN ds.length i with
  | none => rw [e] at h; cases h
  | some j => rw [e] at h; exact r.get' h
def gIx : G2 := fun a b Q => match a, b with
  | .tup ds, .int i => ∃ d, atI ds i = some d ∧ Q (.fz d)
  | .lst ds, .int i => ∃ d, atI ds i = some d ∧ Q (.fz d)
  | .scr ns, .int i => ∃ n, atI ns i = some n ∧ Q (.fz (.int n))
  | .str z, .int i => z.length ≤ sizeLine ∧ ∃ c, atI z.cps.toList i = some c ∧ Q (.fz (.str ⟨#[c]⟩))
  | _, _ => False
theorem Mono2.ix : Mono2 gIx := ⟨fun {a b Q Q'} h q => by
  unfold gIx at q ⊢
  split at q
  · obtain ⟨d, e, q⟩ := q; exact ⟨d, e, h _ q⟩
  · obtain ⟨d, e, q⟩ := q; exact ⟨d, e, h _ q⟩
  · obtain ⟨d, e, q⟩ := q; exact ⟨d, e, h _ q⟩
  · obtain ⟨l, d, e, q⟩ := q; exact ⟨l, d, e, h _ q⟩
  · exact q⟩
theorem atI_map {ns : List Int} {i n : Int} (h : atI ns i = some n) : atI (ns.map V.int) i = some (.int n) := by
  unfold L2.atI at h ⊢
  rw [List.length_map]
  cases e : ixN ns.length i with
  | none => rw [e] at h; cases h
  | some j => rw [e] at h; show (ns.map V.int)[j]? = _; rw [List.getElem?_map]; rw [show ns[j]? = some n from h]; rfl
theorem vi_ix : VIx X gIx where
  ok := by
    intro value slice pins s σ H x y v u Q I rx ry q hs
    refine ix_seq value slice pins s σ H x y v u Q I rx ry ?_ hs
    obtain ⟨F, da, db, sm, vx, vy, q⟩ := q
    unfold gIx at q
    split at q
    · obtain ⟨a, xs, rfl, h1, h2⟩ := vx
      cases vy
      obtain ⟨d, e, q⟩ := q
      obtain ⟨w, e1, rw'⟩ := h2.atI e
      exact .inr (.inl ⟨a, xs, _, w, rfl, rfl, Same.sqT sm h1, e1, q.here sm rw'⟩)
    · obtain ⟨a, xs, rfl, h1, h2⟩ := vx
      cases vy
      obtain ⟨d, e, q⟩ := q
      obtain ⟨w, e1, rw'⟩ := h2.atI e
      exact .inl ⟨a, xs, _, w, rfl, rfl, .inl (.inl h1), e1, q.here sm rw'⟩
    · obtain ⟨a, rfl, h1⟩ := vx
      cases vy
      obtain ⟨d, e, q⟩ := q
      exact .inl ⟨a, _, _, _, rfl, rfl, h1, atI_map e, q.here sm (.int _)⟩
    · cases vx; cases vy
      obtain ⟨l, ch, e, q⟩ := q
      exact .inr (.inr ⟨_, _, _, rfl, rfl, l, e, q.here sm (.str _)⟩)
    · exact q.elim
  mo := .ix

/-! ### builtins -/
theorem VRL.of {f : Value} {g : GL} {r : List V → Hp → VK → Prop} (ho : CallR X f r) (m : MonoL g)
    (h : ∀ F ds vs H Qv, Same F H → VwL (mdX X) F H vs ds → g ds (NPost (mdX X) F H Qv) → r vs H Qv) : VRL X f g :=
  ⟨fun pins s σ H xs us Q I r ⟨F, ds, sm, vl, q⟩ => ho pins s σ H xs us Q I r (h F ds xs H Q sm vl q), m⟩
theorem VwL.one {M : Md} {F H : Hp} {vs : List V} {d : D} (h : VwL M F H vs [d]) : ∃ v, vs = [v] ∧ Vw M F H v d := by
  match vs, h with
  | [v], ⟨h, _⟩ => exact ⟨v, rfl, h⟩
  | _ :: _ :: _, ⟨_, h⟩ => exact h.elim
theorem VwL.two {M : Md} {F H : Hp} {vs : List V} {d d' : D} (h : VwL M F H vs [d, d']) : ∃ v v', vs = [v, v'] ∧ Vw M F H v d ∧ Vw M F H v' d' := by
  match vs, h with
  | [_], ⟨_, h⟩ => exact h.elim
  | [v, v'], ⟨h, h', _⟩ => exact ⟨v, v', rfl, h, h'⟩
  | _ :: _ :: _ :: _, ⟨_, _, h⟩ => exact h.elim
def gLen : GL := fun ds Q => match ds with
  | [.tup ds] => Q (.fz (.int ds.length))
  | [.lst ds] => Q (.fz (.int ds.length))
  | [.scr ns] => Q (.fz (.int ns.length))
  | [.str z] => z.length ≤ sizeLine ∧ Q (.fz (.int z.length))
  | _ => False
theorem vl_len : VRL X (.builtin "len") gLen :=
  .of call_len ⟨fun {ds Q Q'} h q => by
    unfold gLen at q ⊢
    split at q <;> first | exact h _ q | exact ⟨q.1, h _ q.2⟩ | exact q⟩ fun F ds vs H Qv sm vl q => by
    unfold gLen at q
    split at q
    · obtain ⟨v, rfl, a, xs, rfl, h1, h2⟩ := vl.one
      exact ⟨_, _, rfl, .inr ⟨xs, Same.sqT sm h1, h2.length.symm⟩, q.here sm (.int _)⟩
    · obtain ⟨v, rfl, a, xs, rfl, h1, h2⟩ := vl.one
      exact ⟨_, _, rfl, .inl ⟨xs, .inl (.inl h1), h2.length.symm⟩, q.here sm (.int _)⟩
    · obtain ⟨v, rfl, a, rfl, h1⟩ := vl.one
      exact ⟨_, _, rfl, .inl ⟨_, h1, by rw [List.length_map]⟩, q.here sm (.int _)⟩
    · obtain ⟨v, rfl, hv⟩ := vl.one
      cases hv
      exact ⟨_, _, rfl, ⟨q.1, rfl⟩, q.2.here sm (.int _)⟩
    · exact q.elim
def gAbs : GL := fun ds Q => ∃ i, ds = [.int i] ∧ Q (.fz (.int (if i < 0 then -i else i)))
theorem vl_abs : VRL X (.builtin "abs") gAbs :=
  .of call_abs ⟨fun h ⟨i, e, q⟩ => ⟨i, e, h _ q⟩⟩ fun F ds vs H Qv sm vl ⟨i, e, q⟩ => by
    subst e
    obtain ⟨v, rfl, hv⟩ := vl.one
    cases hv
    exact ⟨i, rfl, q.here sm (.int _)⟩
def gMax2 : GL := fun ds Q => ∃ i j, ds = [.int i, .int j] ∧ Q (.fz (.int (if j > i then j else i)))
def gMin2 : GL := fun ds Q => ∃ i j, ds = [.int i, .int j] ∧ Q (.fz (.int (if j < i then j else i)))
theorem vl_max2 (hc : X.calm = true) : VRL X (.builtin "max") gMax2 :=
  .of (call_max2 hc) ⟨fun h ⟨i, j, e, q⟩ => ⟨i, j, e, h _ q⟩⟩ fun F ds vs H Qv sm vl ⟨i, j, e, q⟩ => by
    subst e
    obtain ⟨v, v', rfl, hv, hv'⟩ := vl.two
    cases hv; cases hv'
    exact ⟨i, j, rfl, q.here sm (.int _)⟩
theorem vl_min2 (hc : X.calm = true) : VRL X (.builtin "min") gMin2 :=
  .of (call_min2 hc) ⟨fun h ⟨i, j, e, q⟩ => ⟨i, j, e, h _ q⟩⟩ fun F ds vs H Qv sm vl ⟨i, j, e, q⟩ => by
    subst e
    obtain ⟨v, v', rfl, hv, hv'⟩ := vl.two
    cases hv; cases hv'
    exact ⟨i, j, rfl, q.here sm (.int _)⟩
def gInt1 : GL := fun ds Q => (∃ i, ds = [.int i] ∧ Q (.fz (.int i))) ∨ ∃ k : Bool, ds = [.bl k] ∧ Q (.fz (.int (if k then 1 else 0)))
theorem vl_int : VRL X (.type "int") gInt1 :=
  .of call_int1 ⟨fun h q => q.elim (fun ⟨i, e, q⟩ => .inl ⟨i, e, h _ q⟩) (fun ⟨i, e, q⟩ => .inr ⟨i, e, h _ q⟩)⟩ fun F ds vs H Qv sm vl q => by
    rcases q with ⟨i, e, q⟩ | ⟨k, e, q⟩
    · subst e
      obtain ⟨v, rfl, hv⟩ := vl.one
      cases hv
      exact .inl ⟨i, rfl, q.here sm (.int _)⟩
    · subst e
      obtain ⟨v, rfl, hv⟩ := vl.one
      cases hv
      exact .inr ⟨k, rfl, q.here sm (.int _)⟩
def gList : GL := fun ds Q => match ds with
  | [.tup ds] => Q (.ow (.lst ds))
  | [.lst ds] => Q (.ow (.lst ds))
  | [.scr ns] => Q (.ow (.lst (ns.map D.int)))
  | _ => False
theorem vl_list : VRL X (.type "list") gList :=
  .of call_list_of ⟨fun {ds Q Q'} h q => by
    unfold gList at q ⊢
    split at q <;> first | exact h _ q | exact q⟩ fun F ds vs H Qv sm vl q => by
    unfold gList at q
    split at q
    · obtain ⟨v, rfl, a, xs, rfl, h1, h2⟩ := vl.one
      exact ⟨a, xs, rfl, .inr (Same.sqT sm h1), fun l hl => q.newL sm h2 hl⟩
    · obtain ⟨v, rfl, a, xs, rfl, h1, h2⟩ := vl.one
      exact ⟨a, xs, rfl, .inl (.inl (.inl h1)), fun l hl => q.newL sm h2 hl⟩
    · obtain ⟨v, rfl, a, rfl, h1⟩ := vl.one
      exact ⟨a, _, rfl, .inl h1, fun l hl => q.newL sm (RepL.of_ints _) hl⟩
    · exact q.elim
def gTuple : GL := fun ds Q => match ds with
  | [.tup ds] => Q (.fz (.tup ds))
  | [.lst ds] => Q (.fz (.tup ds))
  | [.scr ns] => Q (.fz (.tup (ns.map D.int)))
  | _ => False
theorem vl_tuple : VRL X (.type "tuple") gTuple :=
  .of call_tuple_of ⟨fun {ds Q Q'} h q => by
    unfold gTuple at q ⊢
    split at q <;> first | exact h _ q | exact q⟩ fun F ds vs H Qv sm vl q => by
    unfold gTuple at q
    split at q
    · obtain ⟨v, rfl, a, xs, rfl, h1, h2⟩ := vl.one
      exact ⟨a, xs, rfl, .inr ⟨Same.sqT sm h1, q.here sm (.tup h1 h2)⟩⟩
    · obtain ⟨v, rfl, a, xs, rfl, h1, h2⟩ := vl.one
      exact ⟨a, xs, rfl, .inl ⟨.inl (.inl h1), fun l hl => q.newT sm h2 hl⟩⟩
    · obtain ⟨v, rfl, a, rfl, h1⟩ := vl.one
      exact ⟨a, _, rfl, .inl ⟨h1, fun l hl => q.newT sm (RepL.of_ints _) hl⟩⟩
    · exact q.elim
def gAll : GL := fun ds Q => ∃ bs : List Bool, ds = [.lst (bs.map D.bl)] ∧ Q (.fz (.bl (bs.all id)))
theorem RepL.bls {M : Md} {F : Hp} : ∀ {vs : List V} {bs : List Bool}, RepL M F vs (bs.map D.bl) → vs = bs.map V.bl
  | _, [], .nil => rfl
  | _, n :: ns, .cons h r => by
    cases h
    rw [RepL.bls (bs := ns) r]; rfl
theorem vl_all (hc : X.calm = true) : VRL X (.builtin "all") gAll :=
  .of (cr_all hc) ⟨fun h ⟨i, e, q⟩ => ⟨i, e, h _ q⟩⟩ fun F ds vs H Qv sm vl ⟨bs, e, q⟩ => by
    subst e
    obtain ⟨v, rfl, a, xs, rfl, h1, h2⟩ := vl.one
    rw [RepL.bls h2] at h1
    exact ⟨a, bs, rfl, .inl (.inl h1), q.here sm (.bl _)⟩
def gSum : GL := fun ds Q => ∃ ns : List Int, ds = [.lst (ns.map D.int)] ∧ Q (.fz (.int ns.sum))
theorem vl_sum (hc : X.calm = true) : VRL X (.builtin "sum") gSum :=
  .of (cr_sum hc) ⟨fun h ⟨i, e, q⟩ => ⟨i, e, h _ q⟩⟩ fun F ds vs H Qv sm vl ⟨bs, e, q⟩ => by
    subst e
    obtain ⟨v, rfl, a, xs, rfl, h1, h2⟩ := vl.one
    rw [RepL.ints h2] at h1
    exact ⟨a, bs, rfl, .inl (.inl h1), q.here sm (.int _)⟩
def gMaxL : GL := fun ds Q => ∃ (ns : List Int) (m : Int), ds = [.lst (ns.map D.int)] ∧ m ∈ ns ∧ (∀ y ∈ ns, y ≤ m) ∧ Q (.fz (.int m))
theorem vl_maxL (hc : X.calm = true) : VRL X (.builtin "max") gMaxL :=
  .of (cr_max hc) ⟨fun h ⟨i, m, e, a, b, q⟩ => ⟨i, m, e, a, b, h _ q⟩⟩ fun F ds vs H Qv sm vl ⟨bs, m, e, hm, hx, q⟩ => by
    subst e
    obtain ⟨v, rfl, a, xs, rfl, h1, h2⟩ := vl.one
    rw [RepL.ints h2] at h1
    refine ⟨a, bs, rfl, .inl (.inl h1), List.length_pos_of_mem hm, fun m' h h' => ?_⟩
    have : m' = m := Int.le_antisymm (hx _ h) (h' _ hm)
    subst this
    exact q.here sm (.int _)
end
end LV


set_option Elab.async false
set_option linter.all false
set_option maxRecDepth 100000
set_option maxHeartbeats 1000000
namespace LV
open PySem PySem.Spec L2

/-! ### defs that may also write out containers: nothing is being written out around them -/
structure RoomG (k : Nat) (A : Around) : Prop where
  rm : Room k A
  gd : A.guards = some []
theorem RoomG.mono {j k : Nat} {A : Around} (r : RoomG k A) (h : j ≤ k) : RoomG j A := ⟨r.rm.mono h, r.gd⟩
theorem RoomG.deeper {k : Nat} {A : Around} (r : RoomG (k + 1) A) (env : Env) : RoomG k (A.deeper env) := ⟨r.rm.deeper env, r.gd⟩
structure FnG (P : Program) (w : World) (K : PySem.W.Frag) (mg : Str → Option Value) (base : Heap) (k : Nat) (f : Addr) (fd : FuncData) (ps : List Str) (sp : Sp) : Prop where
  len : ∀ vs H Q E, sp vs H Q E → vs.length = ps.length
  run : ∀ (A : Around) (outer : List Env) (s : Shared) (H : Hp) (args : Args) (us : List Value) (vs : List V) (Q : VK) (E : XK), RoomG k A → Env0 P w K mg base A outer s H → BindsTo s fd args (ps.zip us) → Vals vs us → sp vs H Q E →
    codeAny (model P w) A (.call (.ref f) args) (CR (L2.CX P w) outer P w H s Q E) s
theorem FnG.mono {P : Program} {w : World} {K : PySem.W.Frag} {mg : Str → Option Value} {base : Heap} {j k : Nat} {f : Addr} {fd : FuncData} {ps : List Str} {sp : Sp} (F : FnG P w K mg base j f fd ps sp) (h : j ≤ k) : FnG P w K mg base k f fd ps sp :=
  ⟨F.len, fun A outer s H args us vs Q E hr => F.run A outer s H args us vs Q E (hr.mono h)⟩
theorem FnG.of {P : Program} {w : World} {K : PySem.W.Frag} {mg : Str → Option Value} {base : Heap} {k : Nat} {f : Addr} {fd : FuncData} {ps : List Str} {sp : Sp} (F : FnOk P w K mg base (L2.CX P w) k f fd ps sp) : FnG P w K mg base k f fd ps sp :=
  ⟨F.len, fun A outer s H args us vs Q E hr => F.run A outer s H args us vs Q E hr.rm⟩
section
variable {X : Cx} {k : Nat} {f : Addr} {fd : FuncData} {ps : List Str} {sp : Sp} {E : L2.St → XK} {x : Str} {p pos : Pos} {e : Expr} {es : List Expr} {t : TA}
theorem run_fnG {pins : List (Addr × Obj)} {σ : L2.St} {H : Hp} {s : Shared} {Q : VK} {us : List Value} {vs : List V} (F : FnG X.prog X.w X.K X.mg X.base k f fd ps sp) (hr : RoomG k X.A) (hb : Binds X.K fd ps []) (hx : PassesAt (L2.CX X.prog X.w) X σ (E σ))
    (I : L2.Inv X pins σ H s) (r : Vals vs us) (h : sp vs H Q (E σ)) : wpAny (model X.prog X.w) X.A (call (.ref f) us) (EP X pins σ Q) X.xe s := by
  have b := hb s us I.kIn (by rw [List.append_nil, ← r.length]; exact F.len _ _ _ _ h)
  rw [List.append_nil] at b
  refine wpAny_call (codeAny_mono (F.run X.A X.stack s H ⟨us, []⟩ us vs Q (E σ) hr I.env0 b r h) fun r s' hq => ?_)
  match r, hq with
  | .error e, hq => exact hx pins H s e s' I hq
  | .ok (.ret u), hq => exact I.after hq
  | .ok .next, hq => exact hq.elim
  | .ok .brk, hq => exact hq.elim
  | .ok .cont, hq => exact hq.elim
theorem pe_callG (F : FnG X.prog X.w X.K X.mg X.base k f fd ps sp) (hr : RoomG k X.A) (hg : Gl X x) (hm : X.mg x = some (.ref f)) (hk : PySem.W.keepIn X.K (.ref f) = true) (hb : Binds X.K fd ps []) (hx : ∀ σ, PassesAt (L2.CX X.prog X.w) X σ (E σ))
    (ha : PA X (e :: es) t) (hdb : (x == ("__debug__" : Str)) = false := by decide) (he : starEach (e :: es) X.env = (false, eval e X.env) :: starEach es X.env := by rfl) (hpl : (backTo pos (starEach es X.env)).any (·.1) = false := by rfl) :
    PE X (.Call (.Name x p) (e :: es) [] pos) (tCallS sp E t) :=
  ⟨fun pins s σ H Q I h => wpAny_Call_Name_kw (ld_glob I hg hm (PySem.W.callWith_K (h₀ := X.base) I.ok.mod.kin hk (thn (ha.run pos pins s σ H _ I h) fun us s1 ⟨vs, H1, I1, r, q⟩ => ⟨I1.kIn, run_fnG F hr hb (hx σ) I1 r q⟩) he hpl) hdb)⟩
end
section
variable {X : Cx} {c : Ct} {W : WX} {e : Expr} {es : List Expr} {wl : AW} {pos p : Pos} {x : Str} {k : Nat} {f : Addr} {fd : FuncData} {ps : List Str} {S : FSpec}
theorem se_callG (F : FnG X.prog X.w X.K X.mg X.base k f fd ps (toSp (mdX X) S)) (mS : MonoF S) (tk : Takes X W) (hr : RoomG k X.A) (hg : Gl X x) (hm : X.mg x = some (.ref f)) (hk : PySem.W.keepIn X.K (.ref f) = true) (hb : Binds X.K fd ps [])
    (ha : SA X c W (e :: es) wl) (hdb : (x == ("__debug__" : Str)) = false := by decide) (he : starEach (e :: es) X.env = (false, eval e X.env) :: starEach es X.env := by rfl) (hpl : (backTo pos (starEach es X.env)).any (·.1) = false := by rfl) :
    SE X c W (.Call (.Name x p) (e :: es) [] pos) (wCall S wl) :=
  ⟨PE.imp (pe_callG F hr hg hm hk hb (passAt tk) ha.pa hdb he hpl) fun σ H Q h => call_core mS ha.mo h, .call mS ha.mo⟩
end
section
variable {P : Program} {w : World} {K : PySem.W.Frag} {mg : Str → Option Value} {base : Heap}
/-- a def of the text, with its body's reading -/
theorem fn_ofG {k : Nat} {f : Addr} {name qual : Str} {params : Arguments} {body : List Stmt} {scope : Scope} {dV kV doc pm cdv ct oc : Value} {an od : Option Addr} {osl : Array (Option Value)} {N ps : List Str} {sp : Sp}
    (lk : K.lookup f = some ⟨oc, od, .func (PySem.W.fnOf name qual params body scope dV kV doc pm an cdv ct), osl⟩) (hcd : PySem.W.codeIn K cdv qual = true) (S : FnScope N ps scope) (len : ∀ vs H Q E, sp vs H Q E → vs.length = ps.length)
    (hbody : ∀ (A : Around) (outer : List Env) (s : Shared) (H : Hp) (vs : List V) (Q : VK) (E : XK), RoomG k (A.deeper (PyProof.Rows.envOfC qual scope s.heap.objs.size f cdv)) → sp vs H Q E →
      ∃ t, PSs (cxOf (L2.CX P w) P w K mg base N qual scope f cdv A outer s H E) body t ∧ t { nx := fun _ H' => Q .non H', rt := Q } (start N vs) H) :
    FnG P w K mg base (k + 1) f (PySem.W.fnOf name qual params body scope dV kV doc pm an cdv ct) ps sp where
  len := len
  run := fun A outer s H args us vs Q E hr e0 hb r hsp => by
    have KX : K.In s.heap := e0.mod.kin.keeps fun b o e => (e0.bs b o e).1
    have lim : s.heap.NoLimit := e0.mod.nolimit.keeps fun b o e => (e0.bs b o e).1
    refine codeAny_call_function hr.rm.depth (KX _ _ lk) rfl S.co S.gen rfl (PySem.W.codeRec_of KX hcd) (hb _ _ _ _ (wpAny_newFunctionEnv_cells S.kind (fun ⟨n, v⟩ hy => ?_) fun env he s1 x => ?_))
    · exact (S.par n (List.of_mem_zip hy).1).elim .inl fun q => .inr ⟨q, PySem.W.cellsFrom_some _ _ _ (.inl q)⟩
    · subst he
      refine ⟨lim.keeps x.toInCall.keep, codeAny_func ?_⟩
      obtain ⟨t, ht, hq⟩ := hbody A outer s H vs Q E (hr.deeper _) hsp
      refine wpAny_mono (ht.run [] s1 (start N vs) H _ (inv_start S hr.rm.hd e0 (len _ _ _ _ hsp) r x) hq) (fun fl s' hs => ?_) fun e s' hs => hs
      match fl, hs with
      | .ret u, ⟨v, σ', H', J, rv, q⟩ => exact ⟨v, H', J.os, J.bare, J.base, J.hok, rv, q⟩
      | .next, ⟨σ', H', J, q⟩ => exact ⟨.non, H', J.os, J.bare, J.base, J.hok, rfl, q⟩
      | .brk, ⟨_, _, _, q⟩ => exact q.elim
      | .cont, ⟨_, _, _, q⟩ => exact q.elim
theorem fn_lvG {x qual : Str} {st : Stmt} {f : Addr} {fd : FuncData} {N ps : List Str} {k : Nat} {S : FSpec} {b : SW} (pn : List Nat) (Fn : Fun K x qual st f fd) (Sc : FnScope N ps (defScope st)) (kp : Keeps S pn ps.length N.length b)
    (hbody : ∀ (cdv : Value) (A : Around) (outer : List Env) (s : Shared) (H : Hp) (E : XK), RoomG k (A.deeper (PyProof.Rows.envOfC qual (defScope st) s.heap.objs.size f cdv)) →
      ∀ c : Ct, c.pn = pn → SSs (cxOf (L2.CX P w) P w K mg base N qual (defScope st) f cdv A outer s H E) c (fun cls d _ H => E cls d H) (defBody st) b) :
    FnG P w K mg base (k + 1) f fd ps (toSp ⟨K, mg, w⟩ S) := by
  have hpl : ps.length ≤ N.length := by have := congrArg List.length Sc.pre; rw [List.length_take] at this; omega
  have lenOf : ∀ {F H : Hp} {vs : List V} {args : List Val}, Rel ⟨K, mg, w⟩ ct0 F H (sV vs) (eV args) → vs.length = args.length := fun {F H vs args} R => by
    have := R.len
    unfold eV sV at this
    simpa using this.symm
  obtain ⟨oc, od, kV, doc, pm, an, cdv, ct, osl, rfl, lk, hcd⟩ := Fn.ex
  refine fn_ofG lk hcd Sc (fun vs H Q E ⟨F, args, R, h⟩ => by rw [lenOf R, (kp.fit _ _ _ h).len]) fun A outer s H vs Q E hr ⟨F, args, R, h⟩ => ?_
  have hf := kp.fit _ _ _ h
  have B := hbody cdv A outer s H E hr ⟨pn, start N vs, H, fun _ _ _ => False⟩ rfl
  refine ⟨_, B.ps, F, startE N.length args, R.begin hf hpl, B.mo.mo (K := KsFn pn args _ _) ⟨fun e q => ?_, fun r e q => ?_, fun _ z => z.elim, fun _ z => z.elim, fun xx e q => ?_⟩ (kp.run _ _ _ h)⟩
  · intro σ' F' H' R' ev
    obtain ⟨as, ea, q⟩ := q
    obtain ⟨R2, ev2, _⟩ := R.finish hf R' ev ea
    exact q .non F' H' R2 ev2 .non
  · intro v σ' F' H' R' ev ok
    obtain ⟨as, ea, q⟩ := q
    obtain ⟨R2, ev2, sub⟩ := R.finish hf R' ev ea
    refine q v F' H' R2 ev2 ?_
    cases r with
    | fz d => exact ok
    | sl i => exact ok.elim
    | ow o =>
      obtain ⟨p, a1, a2, a3, a4, a5⟩ := ok
      exact ⟨p, a1, a2, a3, fun z => a4 (sub p z), a5⟩
  · intro cl d σ' F' H' R' ev xo
    obtain ⟨as, ea, q⟩ := q
    obtain ⟨R2, ev2, _⟩ := R.finish hf R' ev ea
    exact q cl d F' H' R2 ev2 xo
end
/-! ### the law's call -/
/-- the law keeps: at every script it answers True -/
def SLaw (n : Nat) : FSpec := fun args Q _ => ∃ ns : List Int, args = [.fz (.scr ns)] ∧ ns.length ≤ n ∧ (∀ z ∈ ns, Builtin.Int.intBits z ≤ 1048576) ∧ ∀ as, backOk args as = true → Q (.fz (.bl true)) as
theorem MonoF.law {n : Nat} : MonoF (SLaw n) := ⟨fun h _ ⟨ns, a, b, c, q⟩ => ⟨ns, a, b, c, fun as k => h _ _ (q as k)⟩⟩
end LV


set_option Elab.async false
set_option linter.all false
set_option maxRecDepth 100000
set_option maxHeartbeats 1000000
namespace LV
open PySem PySem.Spec L2

theorem sp_law {M : Md} {H : Hp} {a : Addr} {n : Nat} {ns : List Int} (hn : ns.length ≤ n) (hb : ∀ z ∈ ns, Builtin.Int.intBits z ≤ 1048576) (h : SqL M.K H a (ns.map V.int)) :
    toSp M (SLaw n) [.ref a] H (fun v _ => v = .bl true) fun _ _ _ => False := by
  refine ⟨H, [.fz (.scr ns)], ⟨Same.refl _, rfl, fun i d e => ?_, fun i o e => ?_, fun i _ _ _ _ e => ?_, fun i j o u p e => ?_, fun i hi => (nomatch hi), fun b u e => (nomatch e), fun i o p e => ?_⟩, ns, rfl, hn, hb, fun as k v F' H' R' ev ok => ?_⟩
  · cases i with
    | zero => cases e; exact ⟨.ref a, rfl, .scr h⟩
    | succ i => simp [eV] at e
  · cases i with
    | zero => cases e
    | succ i => simp [eV] at e
  · cases i with
    | zero => cases e
    | succ i => simp [eV] at e
  · cases i with
    | zero => cases e
    | succ i => simp [eV] at e
  · cases i with
    | zero => cases e
    | succ i => simp [eV] at e
  · cases (show Rep M F' v (.bl true) from ok); rfl

section
variable {P : Program} {w : World} {K : PySem.W.Frag} {mg mb : Str → Option Value} {k n : Nat} {fa a : Addr} {fd : FuncData} {x : Str} {s₁ : Shared} {vs : List Value} {ns : List Int}
/-- the law is called on a heap in which H is tracked: nothing but the script -/
theorem law_run (KX : K.In s₁.heap) (hns : s₁.heap.Ns mainGlobals mg) (hb : s₁.heap.Ns builtinsNs mb) (hbb : ∀ x : Str, x ≠ "__name__" → mb x = bootBuiltins x) (hlim : s₁.heap.NoLimit) (hg : s₁.gens = #[])
    (ha : s₁.heap.get? a = some { cls := .type "list", data := .seq vs.toArray }) (hr : RoomG k callerA) (hn : ns.length ≤ n) (hz : ∀ z ∈ ns, Builtin.Int.intBits z ≤ 1048576)
    (F : ∀ base : Heap, K.In base → base.Ns mainGlobals mg → FnG P w K mg base k fa fd [x] (toSp ⟨K, mg, w⟩ (SLaw n))) (hbind : ∀ (s : Shared) (u : Value), BindsTo s fd ⟨[u], []⟩ [(x, u)])
    {H : Hp} (hO : Only H) (hS : SqL K H a (ns.map V.int)) (hok : HOk P w H s₁.heap) (hA : ∀ b, H b ≠ none → b = a) (hK : H a ≠ none → K.lookup a = none) :
    codeAny (model P w) callerA (.call (.ref fa) ⟨[.ref a], []⟩) (fun r s' => r = .ok (.ret (.bool true)) ∧ OldK s₁.heap s'.heap ∧ s'.os = s₁.os ∧ PyProof.Rows.AllBare s'.gens) s₁ := by
  have only : ∀ {b : Addr}, (b = a → H b = none) → H b = none := fun {b} h => by
    by_cases e : b = a
    · exact h e
    · cases q : H b with
      | none => rfl
      | some u => exact absurd (hA b (by rw [q]; simp)) e
  have dct : ∀ {b : Addr} {o : Obj} {es : Array DictEntry} {ep : Nat}, s₁.heap.get? b = some o → o.data = .dict es ep → H b = none := fun {b o es ep} e d => only fun z => by
    subst z
    rw [ha] at e; cases e; cases d
  have keepN : ∀ {b : Addr} {m : Str → Option Value}, s₁.heap.Ns b m → (hidT s₁.heap H).Ns b m := fun ⟨o, es, ep, e, d, r⟩ => ⟨o, es, ep, hidT_get e (dct e d), d, r⟩
  have keepK : K.In (hidT s₁.heap H) := fun b o e => hidT_get (KX b o e) (by
    cases q : H b with
    | none => rfl
    | some u =>
      have z := hA b (by rw [q]; simp)
      subst z
      rw [hK (by rw [q]; simp)] at e; cases e)
  have e0 : Env0 P w K mg (hidT s₁.heap H) callerA [] s₁ H :=
    ⟨rfl, ⟨keepK, keepN hns, ⟨mb, keepN hb, hbb⟩, let ⟨mc, h1, h2⟩ := hlim; ⟨mc, keepN h1, h2⟩⟩, fun b o e => of_hidT e, Nat.le_of_eq (hidT_size _ _), trivial, fun b hb => (nomatch hb), hok, .of_eq hg⟩
  refine codeAny_mono ((F _ keepK (keepN hns)).run callerA [] s₁ H ⟨[.ref a], []⟩ [.ref a] [.ref a] _ _ hr e0 (hbind s₁ (.ref a)) (.cons rfl .nil) (sp_law hn hz hS)) fun r s' h => ?_
  match r, h with
  | .error e, ⟨_, _, _, _, _, _, _, _, _, _, _, _, z⟩ => exact z.elim
  | .ok .next, h => exact h.elim
  | .ok .brk, h => exact h.elim
  | .ok .cont, h => exact h.elim
  | .ok (.ret u), ⟨v, H', os, bare, un, hok', r', q⟩ =>
    have q' : v = .bl true := q
    subst q'
    obtain rfl : u = Value.bool true := r'
    refine ⟨rfl, OldK.of_keep fun b o e => ?_, os, bare⟩
    rcases hO b with z | ⟨ob, xs, z⟩
    · exact un.keep b o e z (by intro z; exact nomatch z) (by simp)
    · have z2 := un.frzs b ob _ z
      obtain ⟨e1, _⟩ := hok b _ z
      obtain ⟨e2, _⟩ := hok' b _ z2
      rw [e] at e1; cases e1
      exact e2
theorem law_callG (KX : K.In s₁.heap) (hns : s₁.heap.Ns mainGlobals mg) (hb : s₁.heap.Ns builtinsNs mb) (hbb : ∀ x : Str, x ≠ "__name__" → mb x = bootBuiltins x) (hlim : s₁.heap.NoLimit) (hg : s₁.gens = #[])
    (ha : s₁.heap.get? a = some { cls := .type "list", data := .seq vs.toArray }) (hi : PyProof.Rows.IntsAre vs ns) (hr : RoomG k callerA) (hn : ns.length ≤ n) (hl : n ≤ sizeLine) (hz : ∀ z ∈ ns, Builtin.Int.intBits z ≤ 1048576)
    (F : ∀ base : Heap, K.In base → base.Ns mainGlobals mg → FnG P w K mg base k fa fd [x] (toSp ⟨K, mg, w⟩ (SLaw n))) (hbind : ∀ (s : Shared) (u : Value), BindsTo s fd ⟨[u], []⟩ [(x, u)]) :
    codeAny (model P w) callerA (.call (.ref fa) ⟨[.ref a], []⟩) (fun r s' => r = .ok (.ret (.bool true)) ∧ OldK s₁.heap s'.heap ∧ s'.os = s₁.os ∧ PyProof.Rows.AllBare s'.gens) s₁ := by
  have rv := vals_ints hi
  have lenV := hi.length
  cases hk : K.lookup a with
  | some o =>
    have e := KX a o hk
    rw [ha] at e
    cases e
    exact law_run (H := fun _ => none) KX hns hb hbb hlim hg ha hr hn hz F hbind (fun _ => .inl rfl) (.inr ⟨_, vs.toArray, _, hk, rfl, rfl, rfl, by rw [List.size_toArray, lenV]; omega, by simpa using rv⟩) (fun b u z => nomatch z) (fun b z => absurd rfl z) fun z => absurd rfl z
  | none =>
    refine law_run (H := fun b => if b = a then some (.frz { cls := .type "list", data := .seq vs.toArray } (.lst (ns.map V.int))) else none) KX hns hb hbb hlim hg ha hr hn hz F hbind (fun b => ?_) (.inl (.inr ⟨_, if_pos rfl⟩)) (fun b u z => ?_) (fun b z => ?_) fun _ => hk
    · by_cases e : b = a
      · exact .inr ⟨_, _, if_pos e⟩
      · exact .inl (if_neg e)
    · by_cases e : b = a
      · cases (if_pos e).symm.trans z
        subst e
        exact ⟨ha, by rw [List.length_map]; omega, vs, _, rv, ha⟩
      · cases (if_neg e).symm.trans z
    · by_cases e : b = a
      · exact e
      · exact absurd (if_neg e) z
end
/-- the goal that k_head leaves, from the law's promise -/
theorem walk_lv {l : PySem.W.OpenLaw} {n k : Nat} {q : Program} {loose : List Str} {XP : (Str → Option Value) → Heap → Prop} {YP : World → Heap → Prop} {d : DefRec} {K : Params → PySem.W.Frag} {x : Str}
    (hn : l.most = some n) (hn2 : n ≤ sizeLine) (hdf : d.params.defaults = []) (hr : RoomG k callerA) (hY : ∀ (w : World) (h : Heap), YP w h → (K w.params).In h)
    (F : ∀ (w : World) (mg : Str → Option Value) (fa : Addr) (h : Heap), (K w.params).In h → h.Ns mainGlobals mg → mg d.name = some (.ref fa) →
      ∃ fd : FuncData, (∀ (s : Shared) (u : Value), BindsTo s fd ⟨[u], []⟩ [(x, u)]) ∧
        ∀ base : Heap, (K w.params).In base → base.Ns mainGlobals mg → FnG l.prog w (K w.params) mg base k fa fd [x] (toSp ⟨K w.params, mg, w⟩ (SLaw n))) :
    PySem.W.WalkO q loose XP YP l.row.toRowW d [] (fun f vs => PySem.call f vs) := by
  refine Att.attach_callB hn hdf fun w s₀ s₁ mg mb fa o pm cd doc a vs ns G Y ho hd hcd hmg hobj hints hlen hbits hg => ?_
  obtain ⟨fd, hb, hF⟩ := F w mg fa _ (hY w _ Y) G.T.g hmg
  exact law_callG (hY w _ Y) G.T.g G.T.b G.T.builtins G.T.nolimit hg hobj hints hr hlen hn2 hbits hF hb
end LV


set_option Elab.async false
set_option linter.all false
set_option maxRecDepth 100000
set_option maxHeartbeats 1000000
namespace LV
open PySem PySem.Spec L2

/-! ### repr -/
structure D.Shows (d : D) : Prop where
  plain : d.plain = true
  show_ : d.pd.showable = true
  deep : d.pd.depth ≤ 64
  len : d.pd.shown.length ≤ sizeLine
def gRepr : GL := fun ds Q => ∃ d, ds = [d] ∧ d.Shows ∧ Q (.fz (.str d.pd.shown))
mutual
theorem noDict : ∀ d : D, d.plain = true → d.pd.hasDict = false
  | .non, _ => rfl
  | .bl _, _ => rfl
  | .int _, _ => rfl
  | .str _, _ => rfl
  | .tup ds, h => noDictL ds h
  | .lst ds, h => noDictL ds h
  | .scr ns, _ => noDictI ns
  | .dct _ _, h => nomatch h
  | .ins _ _ _, h => nomatch h
theorem noDictL : ∀ ds : List D, plainL ds = true → PyData.hasDictAll (pdL ds) = false
  | [], _ => rfl
  | d :: ds, h => by
    have h' := Bool.and_eq_true_iff.mp h
    show (d.pd.hasDict || PyData.hasDictAll (pdL ds)) = false
    rw [noDict d h'.1, noDictL ds h'.2]; rfl
theorem noDictI : ∀ ns : List Int, PyData.hasDictAll (ns.map PyData.int) = false
  | [] => rfl
  | n :: ns => by
    show ((PyData.int n).hasDict || PyData.hasDictAll (ns.map PyData.int)) = false
    rw [noDictI ns]; rfl
end
section
variable {X : Cx}
def rRepr (K : PySem.W.Frag) : List V → Hp → VK → Prop := fun xs H Q => ∃ x d, xs = [x] ∧ Dp K H x d ∧ d.showable = true ∧ d.depth ≤ 64 ∧ d.hasDict = false ∧ d.shown.length ≤ sizeLine ∧ Q (.str d.shown) H
theorem call_reprG (hu : X.A.units + 66 < cLine) (hg : X.A.guards = some []) : CallR X (.builtin "repr") (rRepr X.K) := by
  intro pins s σ H xs us Q I r h
  obtain ⟨x, d, rfl, hd, h1, h2, h3, h4, q⟩ := h
  obtain ⟨u, rfl, rx⟩ := vals1 r
  obtain ⟨as, rd⟩ := Dp.reads I d x u hd rx
  have fin : ∀ (h' : Heap) (t : Tok) (tk : Nat), (∀ b o, s.heap.get? b = some o → h'.get? b = some o) → EP X pins σ Q (.str d.shown t) { s with heap := h', toks := tk } := fun h' t tk hk => ⟨.str _, H, I.kept hk, ⟨_, rfl⟩, q⟩
  cases hd with
  | non => cases rx; exact PySem.P.repr_of_none (fin s.heap _ _ fun _ _ e => e)
  | bl b => cases rx; cases b <;> exact PySem.P.repr_of_bool (fin s.heap _ _ fun _ _ e => e)
  | int i => obtain ⟨t, rfl⟩ := rx; exact PySem.P.repr_of_int (by simpa [PyData.showable] using h1) (fin s.heap _ _ fun _ _ e => e)
  | str z => obtain ⟨t, rfl⟩ := rx; exact PySem.P.repr_of_str (fin s.heap _ _ fun _ _ e => e) h4
  | lst _ _ => cases rx; exact PySem.repr_of_reads' rd h1 (fun z => by rw [h3] at z; cases z) hg (by omega) (fun _ _ e => e) (fun h' t tk hk => fin h' t tk hk) h4
  | tup _ _ => cases rx; exact PySem.repr_of_reads' rd h1 (fun z => by rw [h3] at z; cases z) hg (by omega) (fun _ _ e => e) (fun h' t tk hk => fin h' t tk hk) h4
theorem vl_repr (hu : X.A.units + 66 < cLine) (hg : X.A.guards = some []) : VRL X (.builtin "repr") gRepr :=
  .of (call_reprG hu hg) ⟨fun h ⟨d, a, b, q⟩ => ⟨d, a, b, h _ q⟩⟩ fun F ds vs H Qv sm vl ⟨d, e, s, q⟩ => by
    subst e
    obtain ⟨v, rfl, hv⟩ := vl.one
    exact ⟨v, d.pd, rfl, Vw.dp sm hv s.plain, s.show_, s.deep, noDict d s.plain, s.len, q.here sm (.str _)⟩
end

/-! ### isinstance(x, T), T a built-in type -/
inductive Ty where | non | bl | int | str | tup | lst | dct
  deriving DecidableEq
def Ty.nm : Ty → String
  | .non => "NoneType" | .bl => "bool" | .int => "int" | .str => "str" | .tup => "tuple" | .lst => "list" | .dct => "dict"
def isaT : Ty → Ty → Bool
  | .bl, .int => true
  | a, b => a = b
theorem kitT : ∀ a b : Ty, kitB a.nm b.nm = some (isaT a b) := by
  intro a b
  cases a <;> cases b <;> decide +kernel
def D.ty : D → Option Ty
  | .non => some .non | .bl _ => some .bl | .int _ => some .int | .str _ => some .str | .tup _ => some .tup | .lst _ => some .lst | .scr _ => some .lst | .dct _ _ => none | .ins _ _ _ => none
theorem tyx_seqT {K : PySem.W.Frag} {H : Hp} {a : Addr} {xs : List V} (h : SqT K H a xs) : TyX K H (.ref a) (.type "tuple") := by
  rcases h with (h | ⟨o, h⟩) | ⟨o, its, n, h, hc, _⟩
  · exact .base (.tup h)
  · exact .fTuple h
  · exact .kTuple h hc
theorem tyx_seqL {K : PySem.W.Frag} {H : Hp} {a : Addr} {xs : List V} (h : SqL K H a xs) : TyX K H (.ref a) (.type "list") := by
  rcases h with (h | ⟨o, h⟩) | ⟨o, its, n, h, hc, _⟩
  · exact .base (.lst h)
  · exact .base (.frz h)
  · exact .kList h hc
theorem Vw.tyx {M : Md} {F H : Hp} (sm : Same F H) {v : V} {d : D} {t : Ty} (h : Vw M F H v d) (e : d.ty = some t) : TyX M.K H v (.type t.nm) := by
  cases d with
  | non => cases h; cases e; exact .base .non
  | bl b => cases h; cases e; exact .base (.bl _)
  | int b => cases h; cases e; exact .base (.int _)
  | str b => cases h; cases e; exact .base (.str _)
  | tup ds => obtain ⟨a, xs, rfl, h1, _⟩ := h; cases e; exact tyx_seqT (Same.sqT sm h1)
  | lst ds => obtain ⟨a, xs, rfl, h1, _⟩ := h; cases e; exact .base (.lst h1)
  | scr ns => obtain ⟨a, rfl, h1⟩ := h; cases e; exact tyx_seqL h1
  | dct _ _ => cases e
  | ins _ _ _ => cases e
section
variable {X : Cx} {c : Ct} {W : WX} {e : Expr} {es : List Expr} {w : EW} {p p2 pos : Pos}
def wIsi (T : Ty) (w : EW) : EW := fun env Q E => wFz w env (fun r e => ∃ d t, look e r = some d ∧ d.ty = some t ∧ Q (.fz (.bl (isaT t T))) e) E
theorem Mono.isi {T : Ty} (m : Mono w) : Mono (wIsi T w) := ⟨fun hQ hE h => m.fz.mo (fun r e ⟨d, t, a, b, q⟩ => ⟨d, t, a, b, hQ _ _ q⟩) hE h⟩
theorem se_isi {x : Str} {T : Ty} (h : SE X c W e w) (hg : Gl X "isinstance") (hm : X.mg "isinstance" = none) (hgx : Gl X x) (hmx : X.mg x = none) (hv : bootBuiltins x = some (.type T.nm)) (hn : x ≠ "__name__" := by decide) (hdx : (x == ("__debug__" : Str)) = false := by decide)
    (hb : bootBuiltins "isinstance" = some (.builtin "isinstance") := by with_unfolding_all rfl)
    (hs1 : starEach [e, .Name x p2] X.env = (false, eval e X.env) :: starEach [.Name x p2] X.env := by rfl) (hs2 : starEach [.Name x p2] X.env = (false, eval (.Name x p2) X.env) :: starEach [] X.env := by rfl) (hpl : (backTo pos (starEach [.Name x p2] X.env)).any (·.1) = false := by rfl) :
    SE X c W (.Call (.Name "isinstance" p) [e, .Name x p2] [] pos) (wIsi T w) := by
  refine ⟨PE.imp (pe_callB call_isi hg hm hb (pa_cons h.pe (pa_cons (pe_bltn hgx hmx hv (v := .ty T.nm) rfl hn hdx) pa_nil hs2) hs1) (by decide) (by decide) hs1 hpl) fun σ H Q q => ?_, .isi h.mo⟩
  obtain ⟨F, env, R, q⟩ := q
  refine opd h.mo R q fun r e' v F' H' R' ev ok ⟨d, t, l, ht, z⟩ => ?_
  exact ⟨v, .ty T.nm, .type t.nm, .type T.nm, isaT t T, rfl, .ty _, (ok.vw R' l).tyx R'.sub ht, kit_ty (kitT _ _), z (.bl _) F' H' R' ev (.bl _)⟩

/-! ### a name of the module -/
theorem se_globI {x : Str} {i : Int} {t : Tok} (hg : Gl X x) (hm : X.mg x = some (.int i t)) (hd : (x == ("__debug__" : Str)) = false := by decide) : SE X c W (.Name x pos) (wC (.int i)) :=
  se_const (pe_glob (v := .int i) hg hm ⟨t, rfl⟩ hd) fun _ => .int i
theorem se_globS {x : Str} {i : Str} {t : Tok} (hg : Gl X x) (hm : X.mg x = some (.str i t)) (hd : (x == ("__debug__" : Str)) = false := by decide) : SE X c W (.Name x pos) (wC (.str i)) :=
  se_const (pe_glob (v := .str i) hg hm ⟨t, rfl⟩ hd) fun _ => .str i

/-! ### xs[::-1] -/
def wRevS (w : EW) : EW := fun env Q E => wFz w env (fun r e => ∃ d ds, look e r = some d ∧ (d = .lst ds ∨ ∃ ns, d = .scr ns ∧ ds = ns.map D.int) ∧ Q (.ow (.lst ds.reverse)) e) E
theorem Mono.revS (m : Mono w) : Mono (wRevS w) := ⟨fun hQ hE h => m.fz.mo (fun r e ⟨d, t, a, b, q⟩ => ⟨d, t, a, b, hQ _ _ q⟩) hE h⟩
theorem se_revS {k : Nat} {p1 p2 p3 : Pos} (h : SE X c W e w) : SE X c W (.Subscript e (.Slice none none (some (.UnaryOp .USub (.Constant (.int 1) k p1) p2)) p3) pos) (wRevS w) := by
  refine ⟨PE.imp (pe_revL h.pe) fun σ H Q q => ?_, .revS h.mo⟩
  obtain ⟨F, env, R, q⟩ := q
  refine opd h.mo R q fun r e' v F' H' R' ev ok ⟨d, ds, l, hd, z⟩ => ?_
  have np := NPost.of R' (EPost.step ev z)
  rcases hd with rfl | ⟨ns, rfl, rfl⟩
  · obtain ⟨a, xs, rfl, h1, h2⟩ := ok.vw R' l
    exact ⟨a, xs, rfl, .inl (.inl h1), fun p hp => np.newL R'.sub h2.reverse hp⟩
  · obtain ⟨a, rfl, h1⟩ := ok.vw R' l
    exact ⟨a, _, rfl, h1, fun p hp => np.newL R'.sub (RepL.of_ints _).reverse hp⟩

/-! ### x.reverse() -/
def wRev (i : Nat) : SW := fun K env => ∃ ds, env[i]? = some (some (.ow (.lst ds))) ∧ K.nx (env.set i (some (.ow (.lst ds.reverse))))
theorem ss_rev {i : Nat} {x : Str} {p1 p2 p3 : Pos} (hx : X.N[i]? = some x := by rfl) (hv : Vis X.env.scope x := by first | exact Or.inl rfl | exact Or.inr (Or.inl rfl) | exact Or.inr (Or.inr rfl))
    (hd : (x == ("__debug__" : Str)) = false := by decide) (hcd : (x == ("__classdict__" : Str)) = false := by decide)
    (hbase : attributeBase (.Name x p1) "reverse" X.env (eval (.Name x p1) X.env) = eval (.Name x p1) X.env := by rfl)
    (hline : (p2.endLine == p3.line) = true := by rfl)
    (hsw : swapsWith (.Call (.Attribute (.Name x p1) "reverse" p2) [] [] p3) none pos.line X.env = pure false := by rfl) :
    SS X c W (.Expr (.Call (.Attribute (.Name x p1) "reverse" p2) [] [] p3) pos) (wRev i) := by
  refine ⟨PS.imp (ps_expr (pe_bm0 PySem.F.plainAttrs_list PySem.F.slot_list_reverse PySem.F.type_list_reverse mt_reverse (pe_var hx hv hd hcd) hbase hline) hsw) fun D σ H q => ?_, ⟨fun k ⟨ds, a, q⟩ => ⟨ds, a, k.nx _ q⟩⟩⟩
  obtain ⟨F, env, R, ds, q0, q⟩ := q
  obtain ⟨p, hp, hpF, xs, hpH, hr⟩ := R.ow i _ q0
  refine ⟨.ref p, hp, .inl ⟨rfl, xs, .inl (.inl hpH)⟩, ?_⟩
  refine ⟨p, xs, rfl, rfl, hpH, ?_⟩
  obtain ⟨R3, ev3⟩ := R.write (o' := .lst ds.reverse) (u := .lst xs.reverse) q0 hp ⟨_, upd_same, hr.reverse⟩
  exact q σ F _ R3 ev3
end
end LV


set_option Elab.async false
set_option linter.all false
set_option maxRecDepth 100000
set_option maxHeartbeats 1000000
namespace LV
open PySem PySem.Spec L2

/-! ### sorted(set(xs)), xs a list of tuples of ints of one length -/
abbrev rowD (r : List Int) : D := .tup (r.map D.int)
theorem RepL.rows {M : Md} {F : Hp} : ∀ {xs : List V} {rows : List (List Int)}, RepL M F xs (rows.map rowD) → ∃ ks : List (Addr × List Int), xs = ks.map (fun p => V.ref p.1) ∧ ks.map (·.2) = rows ∧ ∀ p ∈ ks, SqT M.K F p.1 (p.2.map V.int)
  | _, [], .nil => ⟨[], rfl, rfl, fun _ h => (nomatch h)⟩
  | _, r :: rows, .cons h t => by
    obtain ⟨ks, e1, e2, e3⟩ := RepL.rows t
    cases h with
    | @tup a xs _ hs hr =>
      rw [RepL.ints hr] at hs
      refine ⟨(a, r) :: ks, by rw [e1]; rfl, by rw [← e2]; rfl, fun p hp => ?_⟩
      rcases List.mem_cons.mp hp with rfl | hp
      · exact hs
      · exact e3 p hp
theorem RepL.ofRows {M : Md} {F : Hp} : ∀ {ks : List (Addr × List Int)}, (∀ p ∈ ks, SqT M.K F p.1 (p.2.map V.int)) → RepL M F (ks.map fun p => V.ref p.1) ((ks.map (·.2)).map rowD)
  | [], _ => .nil
  | p :: ks, h => .cons (.tup (h p List.mem_cons_self) (RepL.of_ints _)) (RepL.ofRows fun q hq => h q (List.mem_cons_of_mem _ hq))
theorem code_bd {B : Int} (hB : 0 < B) : ∀ {ns : List Int}, TS.Bd B ns → 0 ≤ TS.code B ns ∧ TS.code B ns < B ^ ns.length
  | [], _ => ⟨Int.le_refl 0, by show (0 : Int) < B ^ 0; rw [Int.pow_zero]; decide⟩
  | n :: ns, h => by
    obtain ⟨h1, h2⟩ := code_bd hB (ns := ns) fun m hm => h m (List.mem_cons_of_mem _ hm)
    obtain ⟨a, b⟩ := h n List.mem_cons_self
    have p : (0 : Int) < B ^ ns.length := Int.pow_pos hB
    have e1 : 0 ≤ n * B ^ ns.length := Int.mul_nonneg a (Int.le_of_lt p)
    have e2 : (n + 1) * B ^ ns.length ≤ B * B ^ ns.length := Int.mul_le_mul_of_nonneg_right (by omega) (Int.le_of_lt p)
    rw [Int.add_mul, Int.one_mul] at e2
    show 0 ≤ n * B ^ ns.length + TS.code B ns ∧ n * B ^ ns.length + TS.code B ns < B ^ (ns.length + 1)
    rw [Int.pow_succ, Int.mul_comm (B ^ ns.length)]
    exact ⟨by omega, by omega⟩
theorem code_lt_lex {B : Int} (hB : 0 < B) : ∀ {ns ms : List Int}, TS.Bd B ns → TS.Bd B ms → ns.length = ms.length → TS.code B ns ≤ TS.code B ms → ns ≠ ms → ltI ns ms = true
  | [], [], _, _, _, _, n => absurd rfl n
  | [], _ :: _, _, _, l, _, _ => nomatch l
  | _ :: _, [], _, _, l, _, _ => nomatch l
  | x :: ns, y :: ms, h, h', l, c, n => by
    have l' : ns.length = ms.length := Nat.succ.inj l
    have hn : TS.Bd B ns := fun m hm => h m (List.mem_cons_of_mem _ hm)
    have hm : TS.Bd B ms := fun m hm => h' m (List.mem_cons_of_mem _ hm)
    have c' : x * B ^ ns.length + TS.code B ns ≤ y * B ^ ms.length + TS.code B ms := c
    obtain ⟨a1, a2⟩ := code_bd hB hn
    obtain ⟨b1, b2⟩ := code_bd hB hm
    rw [← l'] at c' b2
    have p : (0 : Int) < B ^ ns.length := Int.pow_pos hB
    show (if x = y then ltI ns ms else decide (x < y)) = true
    by_cases e : x = y
    · subst e
      rw [if_pos rfl]
      exact code_lt_lex hB hn hm l' (by omega) fun z => n (by rw [z])
    · rw [if_neg e]
      refine decide_eq_true (Int.lt_of_not_ge fun z => ?_)
      have e2 : (y + 1) * B ^ ns.length ≤ x * B ^ ns.length := Int.mul_le_mul_of_nonneg_right (by omega) (Int.le_of_lt p)
      rw [Int.add_mul, Int.one_mul] at e2
      omega
theorem ltI_irr : ∀ ns : List Int, ltI ns ns = false
  | [] => rfl
  | n :: ns => by show (if n = n then ltI ns ns else decide (n < n)) = false; rw [if_pos rfl]; exact ltI_irr ns
section
variable {X : Cx} {c : Ct} {W : WX} {e : Expr} {w : EW} {p p2 pos pos2 : Pos}
def wSortT (w : EW) : EW := fun env Q E => wFz w env (fun r e => ∃ (rows : List (List Int)) (dd : Nat) (B : Int), look e r = some (.lst (rows.map rowD)) ∧ rows.length < 64 ∧ 1 ≤ dd ∧ 0 < B ∧ (∀ r ∈ rows, r.length = dd ∧ TS.Bd B r) ∧
  ∀ L : List (List Int), (∀ r, r ∈ L ↔ r ∈ rows) → L.Pairwise (fun q r => ltI q r = true) → L.length < 64 → Q (.ow (.lst (L.map rowD))) e) E
theorem Mono.sortT (m : Mono w) : Mono (wSortT w) := ⟨fun hQ hE h => m.fz.mo (fun r e ⟨rows, dd, B, a, b, c, b0, d, q⟩ => ⟨rows, dd, B, a, b, c, b0, d, fun L h2 h3 h4 => hQ _ _ (q L h2 h3 h4)⟩) hE h⟩
theorem se_sortT (h : SE X c W e w) (hc : X.calm = true) (hu : X.A.units + 64 < cLine) (hg : Gl X "sorted") (hm : X.mg "sorted" = none) (hg' : Gl X "set") (hm' : X.mg "set" = none)
    (hb : bootBuiltins "sorted" = some (.builtin "sorted") := by with_unfolding_all rfl) (hb' : bootBuiltins "set" = some (.type "set") := by with_unfolding_all rfl)
    (hs : starEach [.Call (.Name "set" p2) [e] [] pos2] X.env = (false, eval (.Call (.Name "set" p2) [e] [] pos2) X.env) :: starEach [] X.env := by rfl) (hs' : starEach [e] X.env = (false, eval e X.env) :: starEach [] X.env := by rfl)
    (hpl : (backTo pos (starEach [] X.env)).any (·.1) = false := by rfl) (hpl' : (backTo pos2 (starEach [] X.env)).any (·.1) = false := by rfl) :
    SE X c W (.Call (.Name "sorted" p) [.Call (.Name "set" p2) [e] [] pos2] [] pos) (wSortT w) := by
  refine ⟨PE.imp (pe_callB (cr_sortedT hc) hg hm hb (pa_cons (pe_callTy (cr_setOfT hc hu) hg' hm' hb' (pa_cons h.pe pa_nil hs') (by decide) (by decide) hs' hpl') pa_nil hs) (by decide) (by decide) hs hpl) fun σ H Q q => ?_, .sortT h.mo⟩
  obtain ⟨F, env, R, q⟩ := q
  refine opd h.mo R q fun r e' v F' H' R' ev ok ⟨rows, dd, B, l, hl, hd, hB, hr, z⟩ => ?_
  obtain ⟨a, xs, rfl, h1, h2⟩ := ok.vw R' l
  obtain ⟨ks, rfl, rfl, h3⟩ := RepL.rows h2
  refine ⟨a, ks, rfl, .inl (.inl h1), fun p hp => Same.sqT R'.sub (h3 p hp), by simpa using hl, fun b L hb hL hK => ?_⟩
  have sb : Same F' (upd H' b (SetTO X.prog X.w b L)) := same_newO R'.sub hb
  refine ⟨b, L, dd, B, rfl, upd_same, fun p hp => Same.sqT sb (h3 p (hL p hp)), hd, fun p hp => hr _ (List.mem_map_of_mem (hL p hp)), fun L' p pm nd lf pw hp => ?_⟩
  have hL' : ∀ q ∈ L', q.2.length = dd ∧ TS.Bd B q.2 := fun q hq => hr _ (List.mem_map_of_mem (hL q (pm.mem_iff.mp hq)))
  have pw2 : (L'.map (·.2)).Pairwise (fun q r => ltI q r = true) := by
    have h1 : (L'.map (·.2)).Pairwise fun q r => TS.code B q ≤ TS.code B r := List.pairwise_map.mpr pw
    refine (h1.and nd).imp_of_mem fun {q r} hq hr' ⟨x, y⟩ => ?_
    obtain ⟨q', hq', rfl⟩ := List.mem_map.mp hq
    obtain ⟨r', hr2, rfl⟩ := List.mem_map.mp hr'
    exact code_lt_lex hB (hL' q' hq').2 (hL' r' hr2).2 ((hL' q' hq').1.trans (hL' r' hr2).1.symm) x y
  have zz := z (L'.map (·.2)) (fun x => ⟨fun hx => ?_, fun hx => ?_⟩) pw2 (by rw [List.length_map]; exact lf)
  · have hpb : p ≠ b := fun e => by rw [e, upd_same] at hp; cases hp
    have hp' : H' p = none := by rw [upd_ne hpb] at hp; exact hp
    have ev2 : Evo Nob Nob F' H' F' (upd (upd H' b (SetTO X.prog X.w b L)) p (.lst (L'.map fun q => V.ref q.1))) := (Evo.newO hb).trans (Evo.newO hp)
    refine NPost.of R' (EPost.step ev zz) (.ref p) F' _ (same_newO sb hp) ev2 ⟨p, rfl, R'.sub.free hp', ⟨_, upd_same, ?_⟩, hp'⟩
    exact RepL.ofRows fun q hq => h3 q (hL q (pm.mem_iff.mp hq))
  · obtain ⟨q, hq, rfl⟩ := List.mem_map.mp hx
    exact List.mem_map_of_mem (hL q (pm.mem_iff.mp hq))
  · obtain ⟨q, hq, rfl⟩ := List.mem_map.mp hx
    obtain ⟨q', hq', e⟩ := List.mem_map.mp (hK q hq)
    exact List.mem_map.mpr ⟨q', pm.mem_iff.mpr hq', e⟩
end
end LV


set_option Elab.async false
set_option linter.all false
set_option maxRecDepth 100000
set_option maxHeartbeats 4000000
namespace LV
open PySem PySem.Spec PyProof.Rows L2
/-- t * 1, t not empty: t itself -/
theorem tuple_mul1 (l : Addr) (items : Array Value) (n : Nat) (dd : Option Addr) (sl : Array (Option Value)) (u : Tok) :
    Meets (Builtin.«tuple.__mul__» ⟨[.ref l, .int 1 u], []⟩) (fun _ R s => s.heap.get? l = some { cls := .type "tuple", dict := dd, data := .seq items n, slots := sl } ∧ R (.ok (.ret (Value.ref l))) s) :=
  .of_wp fun prog w A R s h => by
    obtain ⟨hp, g, d, tk, os⟩ := s
    obtain ⟨hl, h⟩ := h
    have f1 := AutoSeq1.idx_int
    wp_walk using wpAny_loadPart' hl
    exact ⟨_, rfl, h⟩
/-- t * int by values: 1 gives t itself -/
def rRep1 (K : PySem.W.Frag) : R2 := fun x y H Q => ∃ l xs, x = .ref l ∧ y = .int 1 ∧ SqT K H l xs ∧ Q (.ref l) H
theorem op_rep1 {X : Cx} : OpR X (binaryOp .Mult) (rRep1 X.K) := by
  intro pins s σ H x y v u Q I rx ry h
  obtain ⟨l, xs, rfl, rfl, hT, q⟩ := h
  cases rx
  obtain ⟨t, rfl⟩ := ry
  obtain ⟨its, r, ⟨⟨cls, dd, data, sl⟩, ho, hc, n, hd⟩, hs⟩ := I.tuple hT
  simp only at hc hd
  subst hc hd
  exact wpAny_binaryOp_repeat_ref (T := "tuple") (U := "int") (by decide) ⟨_, ho, rfl⟩ (fun s' => typeIs_int s' 1 t) noFill_tuple_mul F.fills_int_mul F.slot_int_rmul repeat_tuple F.slot_int_index.lookup
    (call_meets F.slot_int_rmul (typeIs_int s 1 t) F.entry_int_rmul (F.args_int_rmul_2 _ _) (int_rmul_tuple 1 t l its.toArray n dd sl)
      ⟨ho, rfl, ⟨_, ho, rfl⟩, call_meets F.slot_tuple_mul ⟨_, ho, rfl⟩ F.entry_tuple_mul (F.args_tuple_mul_2 _ _) (tuple_mul1 l its.toArray n dd sl t) ⟨ho, ⟨.ref l, H, I, rfl, q⟩⟩⟩)
end LV
namespace LV
open PySem PySem.Spec L2
def gMulT : G2 := fun a b Q => (∃ xs, a = .tup xs ∧ b = .int 1 ∧ Q (.fz (.tup xs))) ∨ gMul a b Q
theorem vr_mulT {X : Cx} : VR2 X (binaryOp .Mult) gMulT where
  ok := by
    intro pins s σ H x y v u Q I rx ry ⟨F, da, db, sm, vx, vy, q⟩
    rcases q with ⟨xs, rfl, rfl, q⟩ | q
    · obtain ⟨a, vs, rfl, h1, h2⟩ := vx
      cases vy
      exact op_rep1 pins s σ H _ _ v u Q I rx ry ⟨a, vs, rfl, rfl, Same.sqT sm h1, q.here sm (.tup h1 h2)⟩
    · exact vr_mul.ok pins s σ H x y v u Q I rx ry ⟨F, da, db, sm, vx, vy, q⟩
  mo := ⟨fun h q => q.elim (fun ⟨xs, a, b, q⟩ => .inl ⟨xs, a, b, h _ q⟩) fun q => .inr (Mono2.mul.mo h q)⟩
theorem gMulT_ii {i j : Int} {Q : Rv → Prop} : gMulT (.int i) (.int j) Q = (CMulX i j ∧ Q (.fz (.int (i * j)))) := propext ⟨fun h => h.elim (fun ⟨_, a, _⟩ => (nomatch a)) id, fun h => .inr h⟩
theorem gMulT_li {i : Int} {xs : List D} {Q : Rv → Prop} : gMulT (.lst xs) (.int i) Q = (-(2 ^ 63) ≤ i ∧ i < 2 ^ 63 ∧ xs.length * i.toNat ≤ sizeLine ∧ Q (.ow (.lst (List.replicate i.toNat xs).flatten))) := propext ⟨fun h => h.elim (fun ⟨_, a, _⟩ => (nomatch a)) id, fun h => .inr h⟩
/-- (x,) * k, k from 1 on -/
theorem gMulT_one {d : D} {k : Int} {Q : Rv → Prop} (h1 : 1 ≤ k) (h2 : k ≤ 1000) (q : Q (.fz (.tup (List.replicate k.toNat d)))) : gMulT (.tup [d]) (.int k) Q := by
  by_cases e : k = 1
  · subst e; exact .inl ⟨_, rfl, rfl, q⟩
  · refine .inr ⟨by simp, by omega, h2, by simp, ?_⟩
    rw [show (List.replicate k.toNat [d]).flatten = List.replicate k.toNat d by
      generalize k.toNat = n
      induction n with
      | zero => rfl
      | succ n ih => rw [List.replicate_succ, List.flatten_cons, ih, List.replicate_succ]; rfl]
    exact q
end LV


set_option Elab.async false
set_option linter.all false
set_option maxRecDepth 100000
set_option maxHeartbeats 400000
namespace LV
open PySem PySem.Spec L2
/-! ### lists of texts under == -/
theorem strs_at {as : List Str} {its : List Value} (h : Vals (as.map V.str) its) : ∀ j (h1 : j < its.length), ∃ t, its[j] = .str (as.getD j Str.empty) t := by
  intro j h1
  have hl := h.length
  rw [List.length_map] at hl
  obtain ⟨u, hu, ru⟩ := h.get (i := j) (show (as.map V.str)[j]? = some (.str (as.getD j Str.empty)) by
    rw [List.getElem?_map, List.getElem?_eq_getElem (by omega)]
    simp [List.getD, List.getElem?_eq_getElem (show j < as.length by omega)])
  obtain ⟨t, rfl⟩ := ru
  exact ⟨t, by rw [List.getElem?_eq_getElem h1] at hu; exact Option.some.inj hu⟩
theorem all_strs : ∀ {as bs : List Str}, as.length = bs.length → (List.range as.length).all (fun j => as.getD j Str.empty == bs.getD j Str.empty) = decide (as = bs)
  | [], [], _ => rfl
  | a :: as, b :: bs, h => by
    rw [List.length_cons, List.range_succ_eq_map, List.all_cons, List.all_map]
    show ((a == b) && (List.range as.length).all fun j => as.getD j Str.empty == bs.getD j Str.empty) = _
    rw [all_strs (Nat.succ.inj h)]
    by_cases e : a = b
    · by_cases e' : as = bs
      · simp [e, e']
      · simp [e, e']
    · simp [e]
section
variable {X : Cx}
def rEqS (K : PySem.W.Frag) (neg : Bool) : R2 := fun x y H Q => ∃ (l b : Addr) (as bs : List Str), x = .ref l ∧ y = .ref b ∧ SqL K H l (as.map V.str) ∧ SqL K H b (bs.map V.str) ∧ Q (.bl (if neg then !decide (as = bs) else decide (as = bs))) H
theorem op_eqS (hu : X.A.units < cLine) : OpR X (compareOp .Eq) (rEqS X.K false) := by
  intro pins s σ H x y v u Q I rx ry h
  obtain ⟨l, b, as, bs, rfl, rfl, ha, hb, q⟩ := h
  cases rx
  cases ry
  obtain ⟨its, r1, p1, _⟩ := I.list ha
  obtain ⟨its2, r2, p2, _⟩ := I.list hb
  have n1 : its.length = as.length := by rw [← r1.length, List.length_map]
  have n2 : its2.length = bs.length := by rw [← r2.length, List.length_map]
  have fin : EP X pins σ Q (.bool (decide (as = bs))) s := ⟨.bl _, H, I, rfl, q⟩
  by_cases hl : as.length = bs.length
  · refine SeqAt.RcAt.lists (e := fun j => as.getD j Str.empty == bs.getD j Str.empty) p1.isList p2.isList (by rw [List.size_toArray, List.size_toArray]; omega) hu (fun j h1 h2 => ?_) X.prog X.w X.xe (EP X pins σ Q) ?_
    · obtain ⟨t, e1⟩ := strs_at r1 j (by simpa using h1)
      obtain ⟨t', e2⟩ := strs_at r2 j (by simpa using h2)
      rw [List.getElem_toArray, List.getElem_toArray, e1, e2]
      exact SeqAt.EqAt.str_str _ _ _ _
    · rw [List.size_toArray, n1, all_strs hl]; exact fin
  · refine SeqAt.RcAt.lists_lengths p1.isList p2.isList (by rw [List.size_toArray, List.size_toArray]; simp; omega) hu X.prog X.w X.xe (EP X pins σ Q) ?_
    rw [decide_eq_false (fun z => hl (by rw [z]))] at fin; exact fin
theorem op_neS (hu : X.A.units < cLine) : OpR X (compareOp .NotEq) (rEqS X.K true) := by
  intro pins s σ H x y v u Q I rx ry h
  obtain ⟨l, b, as, bs, rfl, rfl, ha, hb, q⟩ := h
  cases rx
  cases ry
  obtain ⟨its, r1, p1, _⟩ := I.list ha
  obtain ⟨its2, r2, p2, _⟩ := I.list hb
  have n1 : its.length = as.length := by rw [← r1.length, List.length_map]
  have n2 : its2.length = bs.length := by rw [← r2.length, List.length_map]
  have fin : EP X pins σ Q (.bool (!decide (as = bs))) s := ⟨.bl _, H, I, rfl, q⟩
  by_cases hl : as.length = bs.length
  · refine SeqAt.RcNeAt.lists (e := fun j => as.getD j Str.empty == bs.getD j Str.empty) p1.isList p2.isList (by rw [List.size_toArray, List.size_toArray]; omega) hu (fun j h1 h2 => ?_) X.prog X.w X.xe (EP X pins σ Q) ?_
    · obtain ⟨t, e1⟩ := strs_at r1 j (by simpa using h1)
      obtain ⟨t', e2⟩ := strs_at r2 j (by simpa using h2)
      rw [List.getElem_toArray, List.getElem_toArray, e1, e2]
      exact SeqAt.EqAt.str_str _ _ _ _
    · rw [List.size_toArray, n1, all_strs hl]; exact fin
  · refine SeqAt.RcNeAt.lists_lengths p1.isList p2.isList (by rw [List.size_toArray, List.size_toArray]; simp; omega) hu X.prog X.w X.xe (EP X pins σ Q) ?_
    rw [decide_eq_false (fun z => hl (by rw [z]))] at fin; exact fin
def gEqS : G2 := fun a b Q => ∃ as bs : List Str, a = .lst (as.map D.str) ∧ b = .lst (bs.map D.str) ∧ Q (.fz (.bl (decide (as = bs))))
def gNeS : G2 := fun a b Q => ∃ as bs : List Str, a = .lst (as.map D.str) ∧ b = .lst (bs.map D.str) ∧ Q (.fz (.bl (!decide (as = bs))))
theorem RepL.strs {M : Md} {F : Hp} : ∀ {vs : List V} {as : List Str}, RepL M F vs (as.map D.str) → vs = as.map V.str
  | _, [], .nil => rfl
  | _, a :: as, .cons h r => by
    cases h
    rw [RepL.strs (as := as) r]; rfl
theorem Vw.strs {M : Md} {F H : Hp} {v : V} {as : List Str} (h : Vw M F H v (.lst (as.map D.str))) : ∃ l, v = .ref l ∧ SqL M.K H l (as.map V.str) := by
  obtain ⟨a, xs, rfl, h1, h2⟩ := h
  rw [RepL.strs h2] at h1
  exact ⟨a, rfl, .inl (.inl h1)⟩
theorem vr_eqS (hu : X.A.units < cLine) : VR2 X (compareOp .Eq) gEqS :=
  .of (op_eqS hu) ⟨fun h ⟨as, bs, a, b, q⟩ => ⟨as, bs, a, b, h _ q⟩⟩ fun F da db x y H Qv sm vx vy ⟨as, bs, e1, e2, q⟩ => by
    subst e1 e2
    obtain ⟨l, rfl, h1⟩ := vx.strs
    obtain ⟨b, rfl, h2⟩ := vy.strs
    exact ⟨l, b, as, bs, rfl, rfl, h1, h2, q.here sm (.bl _)⟩
theorem vr_neS (hu : X.A.units < cLine) : VR2 X (compareOp .NotEq) gNeS :=
  .of (op_neS hu) ⟨fun h ⟨as, bs, a, b, q⟩ => ⟨as, bs, a, b, h _ q⟩⟩ fun F da db x y H Qv sm vx vy ⟨as, bs, e1, e2, q⟩ => by
    subst e1 e2
    obtain ⟨l, rfl, h1⟩ := vx.strs
    obtain ⟨b, rfl, h2⟩ := vy.strs
    exact ⟨l, b, as, bs, rfl, rfl, h1, h2, q.here sm (.bl _)⟩
end
end LV


set_option Elab.async false
set_option linter.all false
set_option maxRecDepth 100000
set_option maxHeartbeats 1000000
namespace LV
open PySem PySem.Spec L2

/-! ### what the printed derivations lean on -/
theorem tk0 {X : Cx} : Takes X W0 := fun _ _ ⟨_, _, _, _, _, _, _, _, _, _, _, _, _, _, _, _, h⟩ => h.elim
section
variable {P : Program} {w : World} {K : PySem.W.Frag} {mg : Str → Option Value} {base : Heap} {N : List Str} {qual : Str} {scope : Scope} {f : Addr} {cd : Value} {A : Around} {outer : List Env} {s : Shared} {H : Hp} {E : XK}
theorem tkF : Takes (cxOf (L2.CX P w) P w K mg base N qual scope f cd A outer s H E) (fun cls d _ H => E cls d H) := takes_of rfl rfl rfl rfl
theorem poF : PassesOwn (model (cxOf (L2.CX P w) P w K mg base N qual scope f cd A outer s H E).prog (cxOf (L2.CX P w) P w K mg base N qual scope f cd A outer s H E).w) (cxOf (L2.CX P w) P w K mg base N qual scope f cd A outer s H E).A
    (cxOf (L2.CX P w) P w K mg base N qual scope f cd A outer s H E).env (cxOf (L2.CX P w) P w K mg base N qual scope f cd A outer s H E).xe := passes_of rfl
end
/-- a def of the text as it stands in the module -/
structure DefAt (K : PySem.W.Frag) (mg : Str → Option Value) (x : Str) (st : Stmt) (ps : List Str) (f : Addr) (fd : FuncData) : Prop where
  fn : Fun K x x st f fd
  at_ : mg x = some (.ref f)
  bd : Binds K fd ps []
/-- the def named x keeps S -/
structure Ok (P : Program) (w : World) (K : PySem.W.Frag) (mg : Str → Option Value) (base : Heap) (x : Str) (ps : List Str) (k : Nat) (S : FSpec) : Prop where
  ex : ∃ f fd, FnG P w K mg base k f fd ps (toSp ⟨K, mg, w⟩ S) ∧ mg x = some (.ref f) ∧ PySem.W.keepIn K (.ref f) = true ∧ Binds K fd ps []
theorem ok_mk {P : Program} {w : World} {K : PySem.W.Frag} {mg : Str → Option Value} {base : Heap} {x : Str} {st : Stmt} {f : Addr} {fd : FuncData} {N ps : List Str} {k : Nat} {S : FSpec} {b : SW} (pn : List Nat) (D : DefAt K mg x st ps f fd) (Sc : FnScope N ps (defScope st)) (kp : Keeps S pn ps.length N.length b)
    (hbody : ∀ (cdv : Value) (A : Around) (outer : List Env) (s : Shared) (H : Hp) (E : XK), RoomG k (A.deeper (PyProof.Rows.envOfC x (defScope st) s.heap.objs.size f cdv)) →
      ∀ (σ₀ : L2.St) (h₀ : Hp) (xc : Addr → Value → Option Addr → Prop), SSs (cxOf (L2.CX P w) P w K mg base N x (defScope st) f cdv A outer s H E) ⟨pn, σ₀, h₀, xc⟩ (fun cls d _ H => E cls d H) (defBody st) b) :
    Ok P w K mg base x ps (k + 1) S :=
  ⟨f, fd, fn_lvG pn D.fn Sc kp fun cdv A outer s H E hr c hc => match c, hc with
    | ⟨_, σ₀, h₀, xc⟩, rfl => hbody cdv A outer s H E hr σ₀ h₀ xc, D.at_, D.fn.kp, D.bd⟩
section
variable {X : Cx} {c : Ct} {W : WX} {e : Expr} {es : List Expr} {w : EW} {wl : AW} {pos p : Pos} {x : Str} {k j : Nat} {ps : List Str} {S : FSpec}
theorem se_callO (O : Ok X.prog X.w X.K X.mg X.base x ps k S) (mS : MonoF S) (tk : Takes X W) (hr : RoomG j X.A) (hg : Gl X x) (ha : SA X c W (e :: es) wl) (hk : k ≤ j := by decide) (hdb : (x == ("__debug__" : Str)) = false := by decide)
    (he : starEach (e :: es) X.env = (false, eval e X.env) :: starEach es X.env := by rfl) (hpl : (backTo pos (starEach es X.env)).any (·.1) = false := by rfl) :
    SE X c W (.Call (.Name x p) (e :: es) [] pos) (wCall S wl) :=
  let ⟨_, _, F, hm, hkp, hb⟩ := O.ex
  ⟨(se_callG F mS tk (RoomG.mono hr hk) hg hm hkp hb ha hdb he hpl).pe, .call mS ha.mo⟩
/-- an argument handed over as data: a slot's object is frozen -/
def wFrz (w : EW) : EW := fun env Q E => wFz w env (fun r e => ∃ d e2, frz1 e r = some (d, e2) ∧ Q (.fz d) e2) E
theorem Mono.frz (m : Mono w) : Mono (wFrz w) := ⟨fun hQ hE h => m.fz.mo (fun r e ⟨d, e2, a, q⟩ => ⟨d, e2, a, hQ _ _ q⟩) hE h⟩
theorem se_frz (h : SE X c W e w) : SE X c W e (wFrz w) := by
  refine ⟨PE.imp h.pe fun σ H Q q => ?_, .frz h.mo⟩
  obtain ⟨F, env, R, q⟩ := q
  refine opd h.mo R q fun r e' v F' H' R' ev ok ⟨d, e2, a, z⟩ => ?_
  obtain ⟨F2, R2, ev2, rv⟩ := frz1_ok R' ok a
  exact z v F2 H' R2 (ev.trans ev2) rv
/-- -e of an int -/
def wNeg (w : EW) : EW := fun env Q E => w env (fun r e => ∃ i, r = .fz (.int i) ∧ Q (.fz (.int (-i))) e) E
theorem Mono.neg (m : Mono w) : Mono (wNeg w) := ⟨fun hQ hE h => m.mo (fun r e ⟨i, a, q⟩ => ⟨i, a, hQ _ _ q⟩) hE h⟩
theorem se_neg (h : SE X c W e w) : SE X c W (.UnaryOp .USub e pos) (wNeg w) := by
  refine ⟨PE.imp (pe_un un_neg h.pe) fun σ H Q q => ?_, .neg h.mo⟩
  obtain ⟨F, env, R, q⟩ := q
  refine ⟨F, env, R, h.mo.mo (fun r e ⟨i, a, z⟩ => ?_) (fun _ _ z => z) q⟩
  subst a
  intro v F' H' R' ev ok
  cases ok
  exact ⟨i, rfl, z (.int (-i)) F' H' R' ev (.int _)⟩
end
end LV
namespace LV
open PySem PySem.Spec L2
theorem RoomG.u0 {k : Nat} {A : Around} (r : RoomG k A) : A.units < cLine := by have := r.rm.un; omega
theorem RoomG.u9 {k : Nat} {A : Around} (r : RoomG k A) : A.units + 9 < cLine := by have := r.rm.un; omega
theorem RoomG.u64 {k : Nat} {A : Around} (r : RoomG k A) : A.units + 64 < cLine := by have := r.rm.un; omega
theorem RoomG.u65 {k : Nat} {A : Around} (r : RoomG k A) : A.units + 65 < cLine := by have := r.rm.un; omega
theorem RoomG.u66 {k : Nat} {A : Around} (r : RoomG k A) : A.units + 66 < cLine := by have := r.rm.un; omega
/-- an own exception class of one field, with all that its use asks -/
structure XCls (P : Program) (w : World) (K : PySem.W.Frag) (mg : Str → Option Value) (base : Heap) (Cn f : Str) : Prop where
  ex : ∃ (C fI : Addr) (fd : FuncData) (p : Str), mg Cn = some (.ref C) ∧ (OexC K C ∧ XfC K C ∧ PySem.W.findIn K (.ref C) f = some none) ∧ PySem.W.findIn K (.ref C) "__init__" = some (some (.ref fI)) ∧ PySem.W.typeIn K (.ref fI) = some (.type "function") ∧
    FnOk P w K mg base (L2.CX P w) 1 fI fd ["self", p] (spX1 C f) ∧ Binds K fd ["self", p] []
theorem XCls.xc {P : Program} {w : World} {K : PySem.W.Frag} {mg : Str → Option Value} {base : Heap} {Cn f : Str} (T : XCls P w K mg base Cn f) : XC P w K mg base Cn f :=
  let ⟨C, fI, fd, p, h1, ⟨h2, _⟩, h3, h4, h5, h6⟩ := T.ex
  ⟨C, fI, fd, p, h1, h2, h3, h4, h5, h6⟩
/-- does `except B` catch an A -/
def Exm (K : PySem.W.Frag) (mg : Str → Option Value) (A B : Str) (b : Bool) : Prop := ∀ C C', mg A = some (.ref C) → mg B = some (.ref C') → PySem.W.exmOne K (.ref C) (.ref C') = some b
def ctb (l : List (Str × Bool)) : Str → Option Bool := fun s => l.lookup s
theorem catches_of {K : PySem.W.Frag} {mg : Str → Option Value} {B : Str} {C' : Addr} (hm : mg B = some (.ref C')) : ∀ {l : List (Str × Bool)}, (∀ p ∈ l, Exm K mg p.1 B p.2) → Catches K mg (.ref C') (ctb l) := fun {l} h Cn b C e hC => by
  have : (Cn, b) ∈ l := PySem.mem_of_lookup e
  exact h _ this C C' hC hm
section
variable {X : Cx} {c : Ct} {W : WX} {e : Expr} {es : List Expr} {w : EW} {pos pos' np px : Pos} {x n f nm : Str} {i : Nat} {body suite : List Stmt} {b₀ : Stmt} {wb ws : SW} {l : List (Str × Bool)}
theorem se_exV {a : Addr} {oe : Obj} {cls : Value} {d : Option Addr} {pn : List (Addr × Obj)} {c' : Ct} (T : XCls X.prog X.w X.K X.mg X.base x n) (hxc : c'.xc = fun a' c' d' => a' = a ∧ c' = cls ∧ d' = d) (hz : Zc cls d oe) (hf : ∃ vs, oe.data = .fields vs)
    (hN : X.N[i]? = some nm) (hv : Vis X.env.scope nm) (hdb : (nm == ("__debug__" : Str)) = false := by decide) (hcd : (nm == ("__classdict__" : Str)) = false := by decide) (hb : attributeBase (.Name nm px) n X.env (eval (.Name nm px) X.env) = eval (.Name nm px) X.env := by rfl) :
    SE (X.suite a ((a, oe) :: pn)) c' W0 (.Attribute (.Name nm px) n pos) (wExA i x n) :=
  let ⟨_, _, _, _, h1, ⟨_, h3, h4⟩, _⟩ := T.ex
  se_exA hxc h3 h1 h4 hz hf hN hv hdb hcd hb
theorem ss_tryV (T : XCls X.prog X.w X.K X.mg X.base x f) (hs : X.stack = X.env :: X.outer) (hf : X.env.frame = some X.env.locals) (hN : X.N.Nodup) (hi : X.N[i]? = some n) (hln : X.env.kindOf n = some .local) (hg : Gl X x) (tk : Takes X W) (po : PassesOwn (model X.prog X.w) X.A X.env X.xe)
    (hip : i ∉ c.pn) (hl : ∀ p ∈ l, Exm X.K X.mg p.1 x p.2)
    (hb : ∀ (W' : WX) (pn : List (Addr × Obj)) (xe : Value → Shared → Prop), Takes (X.tr pn xe) W' → PassesOwn (model X.prog X.w) X.A X.env xe → SSs (X.tr pn xe) c W' body wb)
    (hsu : ∀ (a : Addr) (oe : Obj) (cls : Value) (d : Option Addr) (pn : List (Addr × Obj)), Zc cls d oe → (∃ vs, oe.data = .fields vs) → SSs (X.suite a ((a, oe) :: pn)) { c with xc := fun a' c' d' => a' = a ∧ c' = cls ∧ d' = d } W0 (b₀ :: suite) ws) (hdb : (x == ("__debug__" : Str)) = false := by decide) :
    SS X c W (.Try body [.ExceptHandler (some (.Name x np)) (some n) (b₀ :: suite) pos'] [] [] pos) (wTryAs wb (ctb l) i ws) :=
  let ⟨C, _, _, _, h1, _⟩ := T.ex
  ss_tryAs hs hf hN hi hln (cv := .ref C) ⟨hg, hdb, .inl h1⟩ tk hip (catches_of h1 hl) (hb W0 [] X.xe tk0 po).mo (hsu 0 { cls := .ref C, data := .fields #[] } (.ref C) none [] ⟨rfl, rfl⟩ ⟨_, rfl⟩).mo hb hsu
end
section
variable {X : Cx} {c : Ct} {W : WX} {elt tgE iter : Expr} {ifs : List Expr} {scope : Scope} {own : List (Str × Nat)} {pos : Pos} {tg : Tg} {it : IW} {u : TW} {w : EW}
theorem se_lcV (hc : X.calm = true) (hN : X.N.Nodup) (ok : BlkOk X.N X.env.scope scope own) (hi : SI X c W tgE iter it) (hv : ∀ i ∈ own.map (·.2), i ∉ c.pn) (ht : ∀ i ∈ tg.slots, i ∈ own.map (·.2))
    (hg : ∀ (s : Shared) (H : Hp) (C : Addr) (cl : List (Str × Addr)) (fp : List Addr), SG (X.blk s H scope (compEnvC scope cl C X.env) fp) tgE tg)
    (hu : ∀ (s : Shared) (H : Hp) (C : Addr) (cl : List (Str × Addr)) (fp : List Addr), STs (X.blk s H scope (compEnvC scope cl C X.env) fp) c W0 ifs u)
    (he : ∀ (s : Shared) (H : Hp) (C : Addr) (cl : List (Str × Addr)) (fp : List Addr), SE (X.blk s H scope (compEnvC scope cl C X.env) fp) c W0 elt w)
    (hs : ∀ x, foldedSetIterable iter X.env x = pure x := by intro _; rfl) : SE X c W (.ListComp elt [⟨tgE, iter, ifs, 0⟩] scope pos) (wLc tg it u w (own.map (·.2))) :=
  se_lc hc hN hi ok hv ht (hu X.s_0 X.H_0 0 [] []).mo (he X.s_0 X.H_0 0 [] []).mo hg hu he hs
theorem ss_setLcV {i : Nat} {y : Str} {py spos : Pos} (hip : i ∉ c.pn) (hc : X.calm = true) (hN : X.N.Nodup) (hy : X.N[i]? = some y) (hyl : X.env.scope.names.lookup y = some .local) (ok : BlkOk X.N X.env.scope scope own)
    (hi : SI X c W tgE iter it) (hv : ∀ i ∈ own.map (·.2), i ∉ c.pn) (ht : ∀ i ∈ tg.slots, i ∈ own.map (·.2))
    (hg : ∀ (s : Shared) (H : Hp) (C : Addr) (cl : List (Str × Addr)) (fp : List Addr), SG (X.blk s H scope (compEnvC scope cl C X.env) fp) tgE tg)
    (hu : ∀ (s : Shared) (H : Hp) (C : Addr) (cl : List (Str × Addr)) (fp : List Addr), STs (X.blk s H scope (compEnvC scope cl C X.env) fp) c W0 ifs u)
    (he : ∀ (s : Shared) (H : Hp) (C : Addr) (cl : List (Str × Addr)) (fp : List Addr), SE (X.blk s H scope (compEnvC scope cl C X.env) fp) c W0 elt w)
    (hsw : swapsWith (.ListComp elt [⟨tgE, iter, ifs, 0⟩] scope pos) (some (.Name y py)) spos.line X.env = pure true := by rfl)
    (hs : ∀ x, foldedSetIterable iter X.env x = pure x := by intro _; rfl) : SS X c W (.Assign [.Name y py] (.ListComp elt [⟨tgE, iter, ifs, 0⟩] scope pos) spos) (wSet i (wLc tg it u w (own.map (·.2)))) :=
  ss_setLc hip hc hN hy hyl hsw hi ok hv ht (hu X.s_0 X.H_0 0 [] []).mo (he X.s_0 X.H_0 0 [] []).mo hg hu he hs
end
end LV


set_option Elab.async false
set_option linter.all false
set_option maxRecDepth 100000
set_option maxHeartbeats 1000000
namespace LV
open PySem PySem.Spec L2
/-! ### dicts that a slot owns: keys are tuples (of texts, whole numbers, None and tuples) -/
def KeyT (d : D) : Prop := ∃ ks : List NestedKey, d = nkD (.tup ks) ∧ (NestedKey.tup ks).depth ≤ 8
section
variable {X : Cx} {F : Hp} {pins : List (Addr × Obj)} {σ : L2.St} {H : Hp} {s : Shared}
mutual
theorem rep_nested (I : L2.Inv X pins σ H s) (sm : Same F H) : ∀ (k : NestedKey) (v : V) (u : Value), Rep (mdX X) F v (nkD k) → RelV v u → NestedIs s.heap k u
  | .none, v, u, h, r => by
    rw [nkD] at h; cases h
    obtain rfl : u = Value.none := r
    exact .none
  | .num i, v, u, h, r => by
    rw [nkD] at h; cases h
    obtain ⟨t, rfl⟩ := r
    exact .int i t
  | .text x, v, u, h, r => by
    rw [nkD] at h; cases h
    obtain ⟨t, rfl⟩ := r
    exact .text x t
  | .tup ks, v, u, h, r => by
    rw [nkD] at h
    cases h with
    | @tup a xs _ hs rl =>
      obtain rfl : u = Value.ref a := r
      obtain ⟨its, rv, ⟨o, ho, hc, n, hd⟩, _⟩ := I.tuple (Same.sqT sm hs)
      exact .tup ho hc hd (by rw [show its.toArray.toList = its from rfl]; exact reps_nested I sm ks xs its rl rv)
theorem reps_nested (I : L2.Inv X pins σ H s) (sm : Same F H) : ∀ (ks : List NestedKey) (vs : List V) (us : List Value), RepL (mdX X) F vs (nkDs ks) → Vals vs us → NestedAll s.heap ks us
  | [], vs, us, h, r => by
    rw [nkDs] at h; cases h; cases r; exact .nil
  | k :: ks, vs, us, h, r => by
    rw [nkDs] at h
    cases h with
    | cons h1 h2 =>
      cases r with
      | cons r1 r2 => exact .cons (rep_nested I sm k _ _ h1 r1) (reps_nested I sm ks _ _ h2 r2)
end
/-- what a store leaves -/
def PutD (ks ds : List D) (k d : D) (ks' ds' : List D) : Prop := (∃ j : Nat, ks[j]? = some k ∧ ks' = ks ∧ ds' = ds.set j d) ∨ (k ∉ ks ∧ ks' = ks ++ [k] ∧ ds' = ds ++ [d])
theorem entries_keys {xs : List (NestedKey × Addr × Value)} (I : L2.Inv X pins σ H s) (sm : Same F H) (hd : ∀ x ∈ xs, x.1.depth ≤ 8) (rl : RepL (mdX X) F (xs.map fun x => V.ref x.2.1) (xs.map fun x => nkD x.1)) : ∀ x ∈ xs, (nestedKind X.prog X.w).is s.heap x.1 x.2.1 := fun x hx => by
  obtain ⟨i, hi⟩ := List.getElem?_of_mem hx
  obtain ⟨d, h1, h2⟩ := rl.get (i := i) (v := V.ref x.2.1) (by rw [List.getElem?_map, hi]; rfl)
  rw [List.getElem?_map, hi] at h1
  cases h1
  exact ⟨rep_nested I sm _ _ _ h2 rfl, hd x hx⟩
theorem nodup_at {xs : List (NestedKey × Addr × Value)} (hn : (xs.map (·.1)).Nodup) {i j : Nat} {x y : NestedKey × Addr × Value} (hi : xs[i]? = some x) (hj : xs[j]? = some y) (e : x.1 = y.1) : i = j :=
  idxH_unique hn (k := x.1) (p := x.2) (q := y.2) hi (by rw [hj, e])
theorem putAt_set {xs : List (NestedKey × Addr × Value)} (hn : (xs.map (·.1)).Nodup) {j : Nat} {k : NestedKey} {a : Addr} {v0 v : Value} (h : xs[j]? = some (k, a, v0)) : xs.map (putAt k v) = xs.set j (k, a, v) := by
  apply List.ext_getElem?
  intro i
  rw [List.getElem?_map, List.getElem?_set]
  by_cases e : j = i
  · subst e
    rw [h, if_pos rfl, if_pos (List.getElem?_eq_some_iff.mp h).1]
    simp [putAt]
  · rw [if_neg e]
    cases hi : xs[i]? with
    | none => rfl
    | some x =>
      have : ¬ x.1 = k := fun z => e (nodup_at hn h hi z.symm)
      simp [putAt, this]
theorem atKey_some {xs : List (NestedKey × Addr × Value)} {k : NestedKey} {p : Addr × Value} (h : atKey xs k = some p) : ∃ j : Nat, xs[j]? = some (k, p) := by
  unfold atKey at h
  cases hf : xs.find? (fun x => decide (x.1 = k)) with
  | none => rw [hf] at h; cases h
  | some x =>
    rw [hf] at h
    cases h
    have hm := List.mem_of_find?_eq_some hf
    have hk : x.1 = k := by simpa using List.find?_some hf
    obtain ⟨j, hj⟩ := List.getElem?_of_mem hm
    exact ⟨j, by rw [hj, ← hk]⟩
theorem atKey_none {xs : List (NestedKey × Addr × Value)} {k : NestedKey} (h : atKey xs k = none) : k ∉ xs.map (·.1) := fun hm => by
  obtain ⟨x, hx, e⟩ := List.mem_map.mp hm
  unfold atKey at h
  have := List.find?_eq_none.mp (Option.map_eq_none_iff.mp h) x hx
  simp [e] at this
def rSetN (M : Md) : TSet := fun o i v H Q => ∃ (p : Addr) (F : Hp) (ks ds : List D) (k d : D), o = .ref p ∧ Same F H ∧ ORep M F H p (.dct ks ds) ∧ Rep M F i k ∧ KeyT k ∧ (∀ k' ∈ ks, KeyT k') ∧ ks.length < sizeLine ∧ Rep M F v d ∧
  ∀ (u : HO) (ks' ds' : List D), PutD ks ds k d ks' ds' → ORep M F (upd H p u) p (.dct ks' ds') → Q (upd H p u)
theorem mut_ext {φ : Heap → Prop} : Mut (some (HO.ext φ)) := True.intro
theorem dK_nil {P : Program} {w : World} {h : Heap} {p : Addr} {H : Hp} (ok : ObjOk P w H h p (.dK [])) : ∃ o es ep, (p == sysModules) = false ∧ h.get? p = some o ∧ o.ExactDict ∧ o.data = .dict es ep ∧ es.toList = [] := by
  obtain ⟨_, lo, vs, rk, o, es, ep, ho, hx, hd, _, hp, _⟩ := ok
  cases rk
  refine ⟨o, es, ep, lo, ho, hx, hd, ?_⟩
  cases hp' : es.toList with
  | nil => rfl
  | cons x xs => rw [hp'] at hp; cases hp
theorem set_N (hu : X.A.units + 9 < cLine) : PSet X (rSetN (mdX X)) := by
  intro pins s σ H o i v ov iv u Q I ro ri rv h
  obtain ⟨p, F, ks, ds, k, d, rfl, sm, orp, rk, ⟨kt, ek, hdk⟩, hall, hlen, rd, q⟩ := h
  obtain rfl : ov = Value.ref p := ro
  subst ek
  rw [nkD] at rk
  cases rk with
  | @tup b bs _ hs rl =>
  obtain rfl : iv = Value.ref b := ri
  have rkey : Rep (mdX X) F (.ref b) (nkD (.tup kt)) := by rw [nkD]; exact .tup hs rl
  have core : ∀ (xs : List (NestedKey × Addr × Value)) (vs : List V), ks = xs.map (fun x => nkD x.1) → (∀ x ∈ xs, x.1.depth ≤ 8) → RepL (mdX X) F (xs.map fun x => V.ref x.2.1) ks → Vals vs (xs.map fun x => x.2.2) → RepL (mdX X) F vs ds →
      Mut (H p) → (p == sysModules) = false → s.heap.DictOfH (nestedKind X.prog X.w) p xs → wpAny (model X.prog X.w) X.A (setItem (.ref p) (.ref b) u) (fun _ s' => ∃ H', L2.Inv X pins σ H' s' ∧ Q H') X.xe s := by
    intro xs vs e1 e2 r1 rvs r2 mu lo hm
    have lx : xs.length = ks.length := by rw [e1, List.length_map]
    refine wpAny_setItem_heap (knd := nestedKind X.prog X.w) (k := .tup kt) (xs := xs) (by show X.A.units + 1 + 8 < cLine; omega) ⟨rep_nested I sm _ _ _ rkey rfl, hdk⟩ hm (fun h' hm' hs' => ?_) (by omega)
    obtain ⟨o', es', ep', ho', hx', hd', he', _, hn'⟩ := id hm'
    have nd : (xs.map (·.1)).Nodup := by obtain ⟨_, _, _, _, _, _, _, _, hn⟩ := hm; exact hn
    have len' : (storedH xs (.tup kt) b u).length ≤ sizeLine := by
      unfold storedH; split
      · rw [List.length_map]; omega
      · rw [List.length_append, List.length_singleton]; omega
    have new : ObjOk X.prog X.w (upd H p (NDO X.w p (storedH xs (.tup kt) b u))) h' p (NDO X.w p (storedH xs (.tup kt) b u)) :=
      ⟨⟨lo, len', hn', o', es', ep', ho', hx', hd', he'⟩, ⟨o', ho'⟩, fun h1 h2 ⟨a1, a2, a3, o, es, ep, a4, a5⟩ kk => ⟨a1, a2, a3, o, es, ep, kk o a4, a5⟩⟩
    refine ⟨_, d_write I mu hs' ⟨o', ho'⟩ new, ?_⟩
    cases hk : atKey xs (.tup kt) with
    | some pv =>
      obtain ⟨a0, v0⟩ := pv
      obtain ⟨j, hj⟩ := atKey_some hk
      have est : storedH xs (.tup kt) b u = xs.set j (.tup kt, a0, u) := by
        rw [storedH_old hk]; exact putAt_set nd hj
      have ekj : ks[j]? = some (nkD (.tup kt)) := by rw [e1, List.getElem?_map, hj]; rfl
      rw [est]
      have e1' : ks = (xs.set j (.tup kt, a0, u)).map fun x => nkD x.1 := by
        rw [e1, List.map_set]
        apply List.ext_getElem?
        intro i
        rw [List.getElem?_set]
        by_cases e : j = i
        · subst e
          rw [if_pos rfl, List.getElem?_map, hj, if_pos (by rw [List.length_map]; exact (List.getElem?_eq_some_iff.mp hj).1)]; rfl
        · rw [if_neg e]
      have ea : (xs.set j (.tup kt, a0, u)).map (fun x => V.ref x.2.1) = xs.map fun x => V.ref x.2.1 := by
        rw [List.map_set]
        apply List.ext_getElem?
        intro i
        rw [List.getElem?_set]
        by_cases e : j = i
        · subst e
          rw [if_pos rfl, List.getElem?_map, hj, if_pos (by rw [List.length_map]; exact (List.getElem?_eq_some_iff.mp hj).1)]; rfl
        · rw [if_neg e]
      refine q _ ks (ds.set j d) (.inl ⟨j, ekj, rfl, rfl⟩) (.inr ⟨_, vs.set j v, upd_same, e1', fun x hx => ?_, by rw [ea]; exact r1, by rw [List.map_set]; exact rvs.set rv j, r2.set rd j⟩)
      rcases List.mem_or_eq_of_mem_set hx with z | z
      · exact e2 x z
      · rw [z]; exact hdk
    | none =>
      have est : storedH xs (.tup kt) b u = xs ++ [(.tup kt, b, u)] := storedH_new hk _ _
      have nk : nkD (.tup kt) ∉ ks := fun z => by
        rw [e1] at z
        obtain ⟨x, hx, e⟩ := List.mem_map.mp z
        exact atKey_none hk (List.mem_map.mpr ⟨x, hx, nkD_inj _ _ e⟩)
      rw [est]
      refine q _ (ks ++ [nkD (.tup kt)]) (ds ++ [d]) (.inr ⟨nk, rfl, rfl⟩) (.inr ⟨_, vs ++ [v], upd_same, by rw [List.map_append, ← e1]; rfl, fun x hx => ?_, ?_, ?_, r2.append (.cons rd .nil)⟩)
      · rcases List.mem_append.mp hx with z | z
        · exact e2 x z
        · rw [List.mem_singleton.mp z]; exact hdk
      · rw [List.map_append]; exact r1.append (.cons rkey .nil)
      · rw [List.map_append]; exact rvs.append (.cons rv .nil)
  rcases orp with ⟨kv, h1, h2, h3⟩ | ⟨xs, vs, h1, h2, h3, h4, h5, h6⟩
  · have : kv = [] := by
      cases kv with
      | nil => rfl
      | cons x xs =>
        obtain ⟨t, e, _⟩ := hall (kD x.1) (by rw [← h2]; exact List.mem_map_of_mem List.mem_cons_self)
        cases hx : x.1 <;> (rw [hx] at e; simp [kD, nkD] at e)
    subst this
    subst h2
    cases h3
    obtain ⟨o, es, ep, lo, ho, hx, hd, he⟩ := dK_nil (I.hok p _ h1)
    exact core [] [] rfl (fun _ z => (nomatch z)) .nil .nil .nil (by rw [h1]; trivial) lo ⟨o, es, ep, ho, hx, hd, he, fun _ z => (nomatch z), .nil⟩
  · obtain ⟨⟨lo, lz, hn, o, es, ep, ho, hx, hd, he⟩, _⟩ := I.hok p _ h1
    subst h2
    exact core xs vs rfl h3 h4 h5 h6 (by rw [h1]; exact mut_ext) lo ⟨o, es, ep, ho, hx, hd, he, entries_keys I sm h3 h4, hn⟩
end
section
variable {X : Cx} {c : Ct} {W : WX} {e : Expr} {w : EW} {pos : Pos}
/-- x[k] = e, x a name that owns a dict of such keys -/
def wSetKey (i : Nat) (w wi : EW) : SW := fun K env => wFz w env (fun r e1 => (∃ v0, e1[i]? = some (some v0)) ∧ wFz wi e1 (fun ri e2 => ∃ kd d e3 ks ds, look e2 ri = some kd ∧ r ≠ .sl i ∧ frz1 e2 r = some (d, e3) ∧ e3[i]? = some (some (.ow (.dct ks ds))) ∧ KeyT kd ∧ (∀ k' ∈ ks, KeyT k') ∧ ks.length < sizeLine ∧
  ∀ ks' ds', PutD ks ds kd d ks' ds' → K.nx (e3.set i (some (.ow (.dct ks' ds'))))) K.ex) K.ex
theorem ss_setKey {i : Nat} {x : Str} {ei : Expr} {wi : EW} {p1 p2 : Pos} (hu : X.A.units + 9 < cLine) (h : SE X c W e w) (hi : SE X c W ei wi) (hx : X.N[i]? = some x := by rfl) (hv : Vis X.env.scope x := by first | exact Or.inl rfl | exact Or.inr (Or.inl rfl) | exact Or.inr (Or.inr rfl))
    (hd : (x == ("__debug__" : Str)) = false := by decide) (hcd : (x == ("__classdict__" : Str)) = false := by decide)
    (ha : ∀ v, assign (.Subscript (.Name x p1) ei p2) X.env v = (do
      let ov ← holding [v] (eval (.Name x p1) X.env)
      let iv ← holding [v, ov] (eval ei X.env)
      standAt p2
      holding [v, ov, iv] (setItem ov iv v)
      release [v, ov, iv] []) := by intro _; rfl)
    (hs : swapsWithSole [.Subscript (.Name x p1) ei p2] e pos.line X.env = pure false := by rfl) (hw : swappedStores [.Subscript (.Name x p1) ei p2] e X.env = pure none := by rfl)
    (h1 : (assignEach [.Subscript (.Name x p1) ei p2] X.env).map (·.2) = [assign (.Subscript (.Name x p1) ei p2) X.env] := by rfl) :
    SS X c W (.Assign [.Subscript (.Name x p1) ei p2] e pos) (wSetKey i w wi) := by
  refine ⟨PS.imp (ps_asg h.pe (pg_sub (pe_var hx hv hd hcd) hi.pe (set_N hu) ha) hs hw h1) fun D σ H q => ?_,
    ⟨fun k q => h.mo.fz.mo (fun _ _ ⟨q0, q⟩ => ⟨q0, hi.mo.fz.mo (fun _ _ ⟨kd, d, e3, ks, ds, l, n, a, b, k1, k2, k3, z⟩ => ⟨kd, d, e3, ks, ds, l, n, a, b, k1, k2, k3, fun _ _ p => k.nx _ (z _ _ p)⟩) (fun _ _ z => k.ex _ _ z) q⟩) (fun _ _ z => k.ex _ _ z) q⟩⟩
  obtain ⟨F, env, R, q⟩ := q
  refine opd h.mo R (h.mo.fz.mo (fun _ _ z => z) (fun _ _ z => z.xp) q) fun r e1 v F1 H1 R1 ev1 ok1 ⟨⟨v0, q0⟩, q1⟩ => ?_
  have hσ : ∃ v1, σ[i]? = some (some v1) := by
    cases v0 with
    | fz d => obtain ⟨v1, h1, _⟩ := R1.fz i d q0; exact ⟨v1, h1⟩
    | ow o => obtain ⟨p, h1, _⟩ := R1.ow i o q0; exact ⟨_, h1⟩
    | ex a C ks vs => exact ⟨_, (R1.ex i a C ks vs q0).1⟩
  obtain ⟨v1, hv1⟩ := hσ
  refine ⟨v1, hv1, ?_⟩
  refine opd hi.mo R1 (hi.mo.fz.mo (fun _ _ z => z) (fun _ _ z => XPost.step ev1 z.xp) q1) fun ri e2 vi F2 H2 R2 ev2 ok2 ⟨kd, d, e3, ks, ds, l, ne, a, b, kT, kA, kL, z⟩ => ?_
  obtain ⟨kt, ek, _⟩ := id kT
  rw [nkD] at ek
  have hvi := ok2.vw R2 l
  have rk : Rep (mdX X) F2 vi kd := by
    rw [ek] at hvi ⊢
    obtain ⟨aa, xs, e, hs2, hr2⟩ := hvi
    rw [e]; exact .tup hs2 hr2
  obtain ⟨F3, R3, ev3, rv⟩ := frz1_ok R2 (ok1.same ev2.fs) a
  obtain ⟨p, h1, h2, h3⟩ := R3.ow i _ b
  rw [hv1] at h1; cases h1
  refine ⟨p, F3, ks, ds, kd, d, rfl, R3.sub, h3, rk.same ev3.fs, kT, kA, kL, rv, fun u ks' ds' put orp => ?_⟩
  obtain ⟨R4, ev4⟩ := R3.write (o' := .dct ks' ds') (u := u) b hv1 orp
  exact z ks' ds' put σ F3 _ R4 (((ev1.trans ev2).trans ev3).trans ev4)
/-- {} -/
def wDct0 : EW := fun env Q _ => Q (.ow (.dct [] [])) env
theorem se_dct0 : SE X c W (.Dict [] [] pos) wDct0 := by
  refine ⟨PE.imp pe_dnewK fun σ H q => ?_, ⟨fun hQ _ h => hQ _ _ h⟩⟩
  intro q
  obtain ⟨F, env, R, q⟩ := q
  intro p hp
  have ev : Evo Nob Nob F H F (upd H p (.dK [])) := Evo.newO hp
  exact q _ _ _ (R.evo ev (same_newO R.sub hp)) ev.nob ⟨p, rfl, R.sub.free hp, .inl ⟨[], upd_same, rfl, .nil⟩, R.notOwn hp, hp⟩
/-- list(x), x a dict -/
def gListD : GL := fun ds Q => match ds with
  | [.dct ks _] => Q (.ow (.lst ks))
  | _ => False
theorem rep_keysK {M : Md} {F : Hp} : ∀ kv : List (Key × V), RepL M F (kv.map fun p => kV p.1) (kv.map fun p => kD p.1)
  | [] => .nil
  | (.inl i, v) :: kv => .cons (.int i) (rep_keysK kv)
  | (.inr x, v) :: kv => .cons (.str x) (rep_keysK kv)
theorem vl_listD (hc : X.calm = true) : VRL X (.type "list") gListD := by
  refine ⟨?_, ⟨fun {ds Q Q'} h q => by unfold gListD at q ⊢; split at q <;> first | exact h _ q | exact q⟩⟩
  intro pins s σ H xs us Q I r ⟨F, ds, sm, vl, q⟩
  unfold gListD at q
  split at q
  · rename_i ks dd
    obtain ⟨v, rfl, a, rfl, h⟩ := vl.one
    rcases h with ⟨kv, h1, h2, h3⟩ | ⟨ys, vs, h1, h2, h3, h4, h5, h6⟩
    · refine call_list_dK hc pins s σ H _ us Q I r ⟨a, kv, rfl, h1, fun l hl => ?_⟩
      subst h2
      exact q.newL sm (rep_keysK kv) hl
    · obtain ⟨u, eu, rx⟩ := vals1 r
      subst eu
      obtain rfl : u = Value.ref a := rx
      obtain ⟨⟨lo, lz, hn, o, es, ep, ho, hx, hd, he⟩, _⟩ := I.hok a _ h1
      have el : es.size = ys.length := by rw [← Array.length_toList, he, List.length_map]
      refine PySem.W.kdl_call (kdl_raw lo hx hd) (I.ok.hd hc) ho (by rw [el]; exact lz) fun h' tk acc' c' hkeep hS hacc => ?_
      refine ⟨.ref s.heap.objs.size, upd H s.heap.objs.size (.lst (ys.map fun y => V.ref y.2.1)), I.laid hkeep (Nat.le_refl _) (show ObjOk X.prog X.w _ _ _ (.lst (ys.map fun y => V.ref y.2.1)) from ⟨?_, acc'.toList, c', ?_, ?_⟩), rfl, q.newL sm h4 (I.hok.fresh (Nat.le_refl _))⟩
      · rw [List.length_map]; exact lz
      · refine vals_of_at (by rw [List.length_map, show acc'.toList.length = acc'.size from Array.length_toList, hacc.1, el]) fun j x w h1 h2 => ?_
        obtain ⟨en, hen, rfl⟩ := hacc.2 j w (by rw [← Array.getElem?_toList]; exact h2)
        rw [← Array.getElem?_toList, he, List.getElem?_map] at hen
        rw [List.getElem?_map] at h1
        cases hy : ys[j]? with
        | none => rw [hy] at h1; cases h1
        | some y =>
          rw [hy] at h1 hen
          cases h1; cases hen; rfl
      · rw [Array.toArray_toList]; exact hS
  · exact q.elim
end
end LV


set_option Elab.async false
set_option linter.all false
set_option maxRecDepth 100000
set_option maxHeartbeats 1000000
namespace LV
open PySem PySem.Spec L2
open PySem.W (KeepsBut AllAlike Sortable dataKind SortsAt EachIs KeyedOut dataLe sortingHeap copyHeap sorted_of_sort keyH_end sortVals keyedOut_each)
open PyProof.Rows (seqObj ksk_rest ksk_tree ksk_end ksk_fold)
/-! ### sorted(xs, key=f, reverse=b), f a def of the module -/
section
variable {X : Cx} {pins : List (Addr × Obj)} {σ : L2.St} {H : Hp} {s : Shared}
theorem own1 {x : V} {d : D} : ∀ b, ¬ Own (sV [x]) (eV [.fz d]) b := fun b ⟨i, o, h1, h2⟩ => by
  cases i with
  | zero => cases h1
  | succ i => simp [eV] at h1
theorem rel1 {M : Md} {F : Hp} {x : V} {d : D} (sm : Same F H) (r : Rep M F x d) : Rel M ct0 F H (sV [x]) (eV [.fz d]) := by
  refine ⟨sm, rfl, fun i d e => ?_, fun i o e => ?_, fun i _ _ _ _ e => ?_, fun i j o u p e => ?_, fun i hi => (nomatch hi), fun b u e => (nomatch e), fun i o p e => ?_⟩
  · cases i with
    | zero => cases e; exact ⟨_, rfl, r⟩
    | succ i => simp [eV] at e
  all_goals
    cases i with
    | zero => cases e
    | succ i => simp [eV] at e
/-- one call of a def with one argument, by its promise -/
theorem call1 {A : Around} {k : Nat} {f : Addr} {fd : FuncData} {p : Str} {S : FSpec} (mS : MonoF S) (Fn : FnG X.prog X.w X.K X.mg X.base k f fd [p] (toSp (mdX X) S)) (hb : Binds X.K fd [p] []) (hr : RoomG k A) (hA : A.frames = some X.stack)
    {F : Hp} {x : V} {u : Value} {d e : D} (I : L2.Inv X pins σ H s) (sm : Same F H) (rx : RelV x u) (r : Rep (mdX X) F x d) (hS : S [.fz d] (fun r as => r = .fz e ∧ as = [.fz d]) (fun _ _ => False)) {E : Value → Shared → Prop} :
    wpAny (model X.prog X.w) A (call (.ref f) [u]) (fun v s' => ∃ F' H' y, L2.Inv X pins σ H' s' ∧ Same F' H' ∧ Evo Nob Nob F H F' H' ∧ Rep (mdX X) F' y e ∧ RelV y v ∧ Un (frs X.stack) [] H H' s.heap s'.heap) E s := by
  have e0 := I.env0
  have e1 : Env0 X.prog X.w X.K X.mg X.base A X.stack s H := ⟨hA, e0.mod, e0.bs, e0.bsz, e0.funs, e0.frf, e0.hok, e0.bare⟩
  have b := hb s [u] I.kIn rfl
  rw [List.append_nil] at b
  refine wpAny_call (codeAny_mono (Fn.run A X.stack s H ⟨[u], []⟩ [u] [x] (fun v H' => ∃ F', Same F' H' ∧ Evo Nob Nob F H F' H' ∧ Rep (mdX X) F' v e) (fun _ _ _ => False) hr e1 b (.cons rx .nil) ⟨F, [.fz d], rel1 sm r, mS.mo (fun r as ⟨e1, e2⟩ => ?_) (fun _ _ z => z.elim) hS⟩) fun r s' hq => ?_)
  · match r, hq with
    | .error e, ⟨_, _, _, _, _, _, _, _, _, _, _, _, z⟩ => exact z.elim
    | .ok (.ret u), ⟨v, H', os, bare, un, hok, rv, F', q1, q2, q3⟩ => exact ⟨F', H', v, I.call' os un hok bare (fun b z => absurd z List.not_mem_nil), q1, q2, q3, rv, un⟩
    | .ok .next, hq => exact hq.elim
    | .ok .brk, hq => exact hq.elim
    | .ok .cont, hq => exact hq.elim
  · subst e1 e2
    intro v F' H' R' ev ok
    refine ⟨F', R'.sub, ?_, ok⟩
    exact ⟨ev.fs, fun b o h => (ev.fn b o h).imp id fun z => z.imp id fun z => own1 b z, fun b o h _ => ev.hk b o h (own1 b), ev.ht, fun b h => h.elim⟩
theorem FpOk.move {H' : Hp} {b : Addr} (h : FpOk X pins H b) (n : H' b = none) : FpOk X pins H' b := ⟨n, h.2⟩
theorem FpOk.nost {b : Addr} (I : L2.Inv X pins σ H s) (h : FpOk X pins H b) : b ∉ frs X.stack := fun z => (List.mem_cons.mp (I.stkSub b z)).elim h.2.1 h.2.2.1
theorem reads_each {F : Hp} (I : L2.Inv X pins σ H s) (sm : Same F H) : ∀ {vs : List V} {ds : List D} {us : List Value}, RepL (mdX X) F vs ds → (∀ d ∈ ds, d.plain = true) → Vals vs us → EachIs (fun v k => ∃ as, Reads s.heap v k as) us (ds.map D.pd)
  | _, _, _, .nil, _, .nil => .nil
  | _, _, _, .cons h r, hp, .cons h' r' => .cons (Dp.reads I _ _ _ (Rep.dp sm h (hp _ List.mem_cons_self)) h') (reads_each I sm r (fun d hd => hp d (List.mem_cons_of_mem _ hd)) r')
def rSortK (X : Cx) (f : Addr) (S : FSpec) (b : Bool) : List V → List V → Hp → VK → Prop := fun vs zs H Qv => ∃ (F : Hp) (l : Addr) (xs : List V) (ds : List D) (kf : D → D), vs = [.ref l] ∧ zs = [.ref f, .bl b] ∧ Same F H ∧ SqL X.K H l xs ∧ RepL (mdX X) F xs ds ∧
  (∀ d ∈ ds, S [.fz d] (fun r as => r = .fz (kf d) ∧ as = [.fz d]) (fun _ _ => False)) ∧ (∀ d ∈ ds, (kf d).plain = true) ∧ AllAlike (ds.map fun d => (kf d).pd) ∧ Sortable (ds.map fun d => (kf d).pd) ∧ (∀ d ∈ ds, (kf d).pd.depth ≤ 64) ∧
  NPost (mdX X) F H Qv (.ow (.lst (ds.mergeSort (dataLe b fun d => (kf d).pd))))
theorem each_zip {M : Md} {F : Hp} : ∀ {xs : List V} {ds : List D} {us : List Value}, RepL M F xs ds → Vals xs us → EachIs (fun v (p : V × D) => RelV p.1 v ∧ Rep M F p.1 p.2) us (xs.zip ds)
  | _, _, _, .nil, .nil => .nil
  | _, _, _, .cons h r, .cons h' r' => .cons ⟨h', h⟩ (each_zip r r')
theorem zip_each {M : Md} {F : Hp} : ∀ {us : List Value} {ps : List (V × D)}, EachIs (fun v (p : V × D) => RelV p.1 v ∧ Rep M F p.1 p.2) us ps → Vals (ps.map (·.1)) us ∧ RepL M F (ps.map (·.1)) (ps.map (·.2))
  | _, _, .nil => ⟨.nil, .nil⟩
  | _, _, .cons h r => ⟨.cons h.1 (zip_each r).1, .cons h.2 (zip_each r).2⟩
theorem map_zip2 : ∀ {xs : List V} {ds : List D}, xs.length = ds.length → (xs.zip ds).map (·.2) = ds
  | [], [], _ => rfl
  | _ :: xs, _ :: ds, h => by rw [List.zip_cons_cons, List.map_cons, map_zip2 (Nat.succ.inj h)]
  | [], _ :: _, h => nomatch h
  | _ :: _, [], h => nomatch h
theorem vals_at : ∀ {xs : List V} {us : List Value} {i : Nat} {u : Value}, Vals xs us → us[i]? = some u → ∃ x, xs[i]? = some x ∧ RelV x u
  | _, _, _, _, .nil, e => by simp at e
  | _, _, 0, _, .cons h _, e => by simp at e; subst e; exact ⟨_, rfl, h⟩
  | _, _, i + 1, u, .cons _ r, e => by
    obtain ⟨x, h1, h2⟩ := vals_at (i := i) (u := u) r (by simpa using e)
    exact ⟨x, by simpa using h1, h2⟩
theorem cr_sortK {k : Nat} {f : Addr} {fd : FuncData} {p : Str} {S : FSpec} {b : Bool} (mS : MonoF S) (Fn : FnG X.prog X.w X.K X.mg X.base k f fd [p] (toSp (mdX X) S)) (hb : Binds X.K fd [p] []) (hr : RoomG (k + 2) X.A) :
    CallRK X (.builtin "sorted") [Str.ofString "key", Str.ofString "reverse"] (rSortK X f S b) := by
  intro pins s σ H vs zs us ws Q I r rz h
  obtain ⟨F, l, xs, ds, kf, rfl, rfl, sm, hl, rl, hS, hpl, hal, hsk, hdp, q⟩ := h
  obtain rfl := Vals.ref1 r
  obtain ⟨w1, w2, rfl, e1, e2⟩ := vals2 rz
  obtain rfl : w1 = Value.ref f := e1
  obtain rfl : w2 = Value.bool b := e2
  obtain ⟨its, rv, pl, hz⟩ := I.list hl
  have lits : its.length = ds.length := rv.length.symm.trans rl.length
  have hrA : RoomG k X.A.in1.in1 := ⟨(show Room (k + 1) X.A.in1 from Room.in1 hr.rm).in1, hr.gd⟩
  have hA : X.A.in1.in1.frames = some X.stack := I.ok.frames
  refine sorted_of_sort pl.isList (by rw [lits, ← rl.length]; exact hz) (PyProof.Rows.ksk_s2 _ _ _) (fun _ => PyProof.Rows.ksk_l2 _ _ _) fun E' => ?_
  show wpAny _ _ (Builtin.«list.sort» ⟨[.ref (s.heap.objs.size + 1)], [(Str.ofString "key", .ref f), (Str.ofString "reverse", .bool b)]⟩) _ _ _
  rw [PyProof.Rows.ksk_t2]
  generalize ha : s.heap.objs.size + 1 = a
  have ha0 : s.heap.objs.size ≤ a := by omega
  have hoC : (copyHeap s.heap its).get? a = some (seqObj "list" its.toArray 0) := by rw [← ha]; exact PySem.W.copyHeap_at s.heap its
  obtain ⟨e1, ho1⟩ : ∃ e1, ((copyHeap s.heap its).update a (Obj.mapSeq fun _ => (#[] : Array Value))).get? a = some (seqObj "list" #[] e1) := ⟨_, PyProof.Rows.get?_update_seq hoC fun _ => #[]⟩
  have hL : its.length ≤ sizeLine := by rw [lits, ← rl.length]; exact hz
  unfold ksk_tree
  refine wpAny_bind (PyProof.Rows.listItems_at hoC rfl ?_)
  refine wpAny_bind (PyProof.Rows.listUpdate_at hoC rfl ?_ (by rw [List.size_toArray]; exact hL) (Nat.zero_le _))
  refine wpAny_bind (PyProof.Rows.seqEpoch_at ho1 rfl ?_)
  refine wpAny_bind (wpAny_newTuple ?_ (by show its.length ≤ _; exact hL))
  refine wpAny_bind (wpAny_newList ?_ (Nat.zero_le _))
  refine wpAny_holding ?_
  have old : ∀ b o, s.heap.get? b = some o → (sortingHeap (copyHeap s.heap its) a its).get? b = some o := fun b o e => by rw [← ha]; exact PySem.W.sorting_copy_old e
  have I2 : L2.Inv X pins σ H { s with heap := sortingHeap (copyHeap s.heap its) a its, toks := s.toks } := I.kept old
  generalize hk : (((copyHeap s.heap its).update a (Obj.mapSeq fun _ => (#[] : Array Value))).push (seqObj "tuple" its.toArray 0)).objs.size = kS
  have nkS : (sortingHeap (copyHeap s.heap its) a its).get? kS = some (seqObj "list" #[] 0) := by rw [← hk]; exact Heap.get?_push_size _ rfl
  have na0 : (sortingHeap (copyHeap s.heap its) a its).get? a = some (seqObj "list" #[] e1) := Heap.get?_push_of_some _ (Heap.get?_push_of_some _ ho1)
  have hka : kS ≠ a := by
    rw [← hk, PyProof.Rows.size_push']; exact Nat.ne_of_gt (Nat.lt_succ_of_lt (Heap.lt_size ho1))
  have hk0 : s.heap.objs.size ≤ kS := by
    rw [← hk, PyProof.Rows.size_push']; exact Nat.le_trans ha0 (Nat.le_of_lt (Nat.lt_succ_of_lt (Heap.lt_size ho1)))
  have nHa : H a = none := I.hok.fresh ha0
  have nHk : H kS = none := I.hok.fresh hk0
  have fa : FpOk X pins H a := I.fpOk ha0 nHa
  have fk : FpOk X pins H kS := I.fpOk hk0 nHk
  unfold ksk_rest
  refine wpAny_bind (wpAny_rule ?_)
  rw [List.forIn_toArray]
  refine wpAny_bind (ksk_fold (fun i s' => ∃ (Fj Hj : Hp) (kvs : List V) (kA : Array Value) (e : Nat), L2.Inv X pins σ Hj s' ∧ Same Fj Hj ∧ Evo Nob Nob F H Fj Hj ∧ Hj a = none ∧ Hj kS = none ∧ s'.heap.get? kS = some (seqObj "list" kA e) ∧ s'.heap.get? a = some (seqObj "list" #[] e1) ∧ Vals kvs kA.toList ∧ RepL (mdX X) Fj kvs ((ds.take i).map kf)) its 0 _
    ⟨F, H, [], #[], 0, I2, sm, Evo.refl, nHa, nHk, nkS, na0, .nil, by rw [List.take_zero]; exact .nil⟩ ?step ?done)
  case step =>
    rintro j u s' hx ⟨Fj, Hj, kvs, kA, e, I', smj, ev, nja, njk, nk', na', rk, rlk⟩
    simp only [Nat.zero_add] at rlk ⊢
    obtain ⟨x, hxj, rx⟩ := vals_at rv hx
    obtain ⟨d, hd, rd⟩ := rl.get hxj
    have hz' : kA.size ≤ sizeLine := by
      have h1 := rk.length.symm.trans rlk.length
      rw [Array.length_toList, List.length_map, List.length_take] at h1
      omega
    refine wpAny_bind (wpAny_attempt (wpAny_mono (call1 mS Fn hb hrA hA I' smj rx (rd.same ev.fs) (hS d (List.mem_of_getElem? hd)) (E := fun _ _ => False)) (fun v s2 he => ?_) fun _ _ hF => hF.elim))
    obtain ⟨F2, H2, y, I3, sm2, ev2, ry, rvy, un⟩ := he
    have nk2 : s2.heap.get? kS = some (seqObj "list" kA e) := un.keep _ _ nk' njk (FpOk.nost I' (FpOk.move fk njk)) List.not_mem_nil
    have na2 : s2.heap.get? a = some (seqObj "list" #[] e1) := un.keep _ _ na' nja (FpOk.nost I' (FpOk.move fa nja)) List.not_mem_nil
    have n2k : H2 kS = none := un.free _ _ nk' njk List.not_mem_nil
    have n2a : H2 a = none := un.free _ _ na' nja List.not_mem_nil
    obtain ⟨c2, hc2⟩ : ∃ c2, (s2.heap.update kS (Obj.mapSeq (·.push v))).get? kS = some (seqObj "list" (kA.push v) c2) := ⟨_, PyProof.Rows.get?_update_seq nk2 (·.push v)⟩
    refine wpAny_bind (PyProof.Rows.listUpdate_at nk2 rfl ?_ hz' (Nat.le_trans (Nat.le_of_eq (Array.size_push ..)) (Nat.succ_le_succ hz')))
    have oth : ∀ b o, b ∉ [kS] → s2.heap.get? b = some o → (s2.heap.update kS (Obj.mapSeq (·.push v))).get? b = some o := fun b o hb e => (Heap.get?_update_other _ _ (fun z => hb (by simp [z]))).trans e
    have I4 : L2.Inv X pins σ H2 { s2 with heap := s2.heap.update kS (Obj.mapSeq (·.push v)), toks := s2.toks } := I3.turnedL (ch := [kS]) oth (fun b hb => by rw [List.mem_singleton.mp hb]; exact FpOk.move fk n2k)
    refine wpAny_pure ⟨rfl, F2, H2, kvs ++ [y], kA.push v, c2, I4, sm2, ev.trans ev2, n2a, n2k, hc2, oth _ _ (by simpa using fun z => hka z.symm) na2, ?_, ?_⟩
    · rw [Array.toList_push]; exact rk.append (.cons rvy .nil)
    · rw [List.take_add_one, hd, List.map_append]
      exact (rlk.same ev2.fs).append (.cons ry .nil)
  case done =>
    rintro s' ⟨Fn', Hn, kvs, kA, e, I', smn, ev, nna, nnk, nk', na', rk, rlk⟩
    rw [Nat.zero_add, lits, List.take_length] at rlk
    have hk' : EachIs (fun v k => ∃ as, Reads s'.heap v k as) kA.toList (ds.map fun d => (kf d).pd) := by
      have := reads_each I' smn rlk (fun d hd => by obtain ⟨d0, h0, rfl⟩ := List.mem_map.mp hd; exact hpl d0 h0) rk
      rw [List.map_map] at this
      exact this
    have hsz : kA.size = its.length := by
      have h1 := hk'.length
      rw [Array.length_toList, List.length_map] at h1
      omega
    obtain ⟨G, hG1, hG2⟩ := restrict s'.heap fun b => decide (b ≠ kS)
    have kp : KeepsBut a G s'.heap := fun b o _ e => by
      by_cases hb : b = kS
      · rw [hG2 b (by simp [hb])] at e; cases e
      · rw [← hG1 b (by simp [hb])]; exact e
    refine wpAny_bind (PyProof.Rows.listItems_at nk' rfl ?_)
    have hu : ∀ d ∈ ds.map fun d => (kf d).pd, X.A.in1.in1.units + d.depth < cLine := fun d hd => by
      obtain ⟨d0, h0, rfl⟩ := List.mem_map.mp hd
      have := hdp d0 h0
      have := hrA.rm.un
      omega
    refine keyH_end (κ := dataKind s'.heap (ds.map fun d => (kf d).pd)) (h₁ := G) kp (hG2 kS (by simp)) nk' na' hka (SortsAt.data hk' hal hsk hu) hsz hL fun h3 tk3 c k3 n3 => ⟨rfl, ?_⟩
    have kz : (xs.zip ds).map (fun p => (kf p.2).pd) = ds.map fun d => (kf d).pd := by
      rw [← map_zip2 rl.length, List.map_map, map_zip2 rl.length]; rfl
    have out := keyedOut_each (rev := b) (fun p : V × D => (kf p.2).pd) (by rw [kz]; exact ⟨s'.heap, kA.toList, hal, rfl, hk'⟩) (each_zip rl rv)
    obtain ⟨ov, orl⟩ := zip_each out
    have len3 : ((xs.zip ds).mergeSort (dataLe b fun p : V × D => (kf p.2).pd)).length = ds.length := by rw [List.length_mergeSort, List.length_zip, rl.length, Nat.min_self]
    have oD : ((xs.zip ds).mergeSort (dataLe b fun p : V × D => (kf p.2).pd)).map (·.2) = ds.mergeSort (dataLe b fun d => (kf d).pd) := by
      have := List.map_mergeSort (r := dataLe b fun p : V × D => (kf p.2).pd) (s := dataLe b fun d => (kf d).pd) (f := fun p : V × D => p.2) (l := xs.zip ds) (fun _ _ _ _ => rfl)
      rw [this, map_zip2 rl.length]
    rw [oD] at orl
    have hlen := orl.length
    have nne : ∀ {b : Addr} {u : HO}, Hn b = some u → b ∉ [a, kS] := fun {b u} e z => by
      rcases List.mem_cons.mp z with z | z
      · rw [z, nna] at e; cases e
      · rw [List.mem_singleton.mp z, nnk] at e; cases e
    have kk : ∀ b o, b ∉ [a, kS] → s'.heap.get? b = some o → h3.get? b = some o := fun b o hc e => by
      have h1 : b ≠ a := fun z => hc (by simp [z])
      have h2 : b ≠ kS := fun z => hc (by simp [z])
      exact k3 b o h1 (by rw [hG1 b (by simp [h2])]; exact e)
    have una : ∀ {b : Addr} {o : HO}, b ∉ [a, kS] → upd Hn a o b = Hn b := fun {b o} hc => upd_ne fun z => hc (by simp [z])
    have hok : HOk X.prog X.w (upd Hn a (.lst (((xs.zip ds).mergeSort (dataLe b fun p : V × D => (kf p.2).pd)).map (·.1)))) h3 := fun c u e => by
      by_cases hc : c = a
      · rw [hc, upd_same] at e; cases e
        rw [hc]
        exact ⟨by rw [hlen, List.length_mergeSort, ← rl.length]; exact hz, _, _, ov, n3⟩
      · rw [upd_ne hc] at e
        refine (I'.hok c u e).stay (fun b v hb q => kk b v ?_ q) (fun b q => by rw [una (nne q)]; exact q) fun b ys q => by rw [una (nne q)]; exact q
        rcases hb with z | z
        · rw [z]; exact nne e
        · exact nne z
    have I5 : L2.Inv X pins σ (upd Hn a (.lst (((xs.zip ds).mergeSort (dataLe b fun p : V × D => (kf p.2).pd)).map (·.1)))) { s' with heap := h3, toks := tk3 } := by
      refine I'.step (g' := s'.gens) (d' := s'.drawn) (ch := [a, kS]) (fun b hb => ?_) (fun b o _ _ hc e _ => kk b o hc e) (fun b o _ _ hc e _ => ⟨o.slots, kk b o hc e⟩) (fun b o hc _ n => by rw [una hc]; exact n) (fun b o hc e => ⟨o, kk b o hc e⟩)
        (fun b ys e => by rw [una (nne e)]; exact e) (fun b o u e => by rw [una (nne e)]; exact e) (fun b ps e => ⟨#[], by rw [una (nne e), e]; simp⟩) (fun m hm => ?_) hok I'.bare
      · rcases List.mem_cons.mp hb with z | z
        · rw [z]; exact ⟨fa.2.2.2.1, fa.2.1, fa.2.2.2.2.1, fa.2.2.2.2.2⟩
        · rw [List.mem_singleton.mp z]; exact ⟨fk.2.2.2.1, fk.2.1, fk.2.2.2.2.1, fk.2.2.2.2.2⟩
      · obtain ⟨o, es, ep, ho, rr⟩ := hm
        exact ⟨o, es, ep, kk _ o (fun z => by
          rcases List.mem_cons.mp z with z | z
          · exact fa.2.1 z.symm
          · exact fk.2.1 (List.mem_singleton.mp z).symm) ho, rr⟩
    exact ⟨.ref a, _, I5, rfl, q (.ref a) Fn' _ (same_newO smn nna) (ev.trans (Evo.newO nna)) ⟨a, rfl, smn.free nna, ⟨_, upd_same, orl.same ev.fs⟩, nHa⟩⟩
end
section
variable {X : Cx} {c : Ct} {W : WX} {e : Expr} {w : EW} {p p2 p3 p4 p5 pos : Pos} {f pn : Str} {S : FSpec} {b : Bool} {k j : Nat} {jj : Nat}
def wSortK (S : FSpec) (b : Bool) (w : EW) : EW := fun env Q E => wFz w env (fun r e => ∃ (ds : List D) (kf : D → D), look e r = some (.lst ds) ∧ (∀ d ∈ ds, S [.fz d] (fun r as => r = .fz (kf d) ∧ as = [.fz d]) (fun _ _ => False)) ∧ (∀ d ∈ ds, (kf d).plain = true) ∧
  AllAlike (ds.map fun d => (kf d).pd) ∧ Sortable (ds.map fun d => (kf d).pd) ∧ (∀ d ∈ ds, (kf d).pd.depth ≤ 64) ∧ ∀ out : List D, out.Perm ds → out.Pairwise (fun x y => dataLe b (fun d => (kf d).pd) x y = true) → Q (.ow (.lst out)) e) E
theorem Mono.sortK (m : Mono w) : Mono (wSortK S b w) := ⟨fun hQ hE h => m.fz.mo (fun r e ⟨ds, kf, a, b, c, d, f, g, q⟩ => ⟨ds, kf, a, b, c, d, f, g, fun o h1 h2 => hQ _ _ (q o h1 h2)⟩) hE h⟩
theorem dataLe_srt {rev : Bool} {kf : D → PyData} (ds : List D) : (ds.mergeSort (dataLe rev kf)).Pairwise fun x y => dataLe rev kf x y = true :=
  List.pairwise_mergeSort (fun x y z h1 h2 => (PySem.W.sortLe_total _ rev _).trans x y z h1 h2) (fun x y => by rcases (PySem.W.sortLe_total _ rev _).total x y with h | h <;> (rw [h]; simp)) ds
theorem se_sortK (O : Ok X.prog X.w X.K X.mg X.base f [pn] k S) (mS : MonoF S) (hr : RoomG j X.A) (h : SE X c W e w) (hgf : Gl X f) (hg : Gl X "sorted") (hm : X.mg "sorted" = none) (hk : k + 2 ≤ j := by decide)
    (hdf : (f == ("__debug__" : Str)) = false := by decide) (hb : bootBuiltins "sorted" = some (.builtin "sorted") := by with_unfolding_all rfl)
    (he : backTo pos (starEach [e] X.env) = (false, eval e X.env) :: backTo pos (starEach [] X.env) := by rfl) (hpl : (backTo pos (starEach [e] X.env)).any (·.1) = false := by rfl)
    (hst : starEach [e] X.env = (false, eval e X.env) :: starEach [] X.env := by rfl)
    (hall : (backToKw pos (keywordEach [⟨some "key", .Name f p2, p3⟩, ⟨some "reverse", .Constant (.bool b) jj p4, p5⟩] X.env)).all (·.1.isSome) = true := by rfl) (hnone : (backToKw pos (keywordEach [⟨some "key", .Name f p2, p3⟩, ⟨some "reverse", .Constant (.bool b) jj p4, p5⟩] X.env)).any (·.1.isNone) = false := by rfl)
    (hks : (backToKw pos (keywordEach [⟨some "key", .Name f p2, p3⟩, ⟨some "reverse", .Constant (.bool b) jj p4, p5⟩] X.env)).filterMap (·.1) = [Str.ofString "key", Str.ofString "reverse"] := by rfl) :
    SE X c W (.Call (.Name "sorted" p) [e] [⟨some "key", .Name f p2, p3⟩, ⟨some "reverse", .Constant (.bool b) jj p4, p5⟩] pos) (wSortK S b w) := by
  obtain ⟨fa, fd, F, hmf, hkp, hbd⟩ := O.ex
  refine ⟨PE.imp (pe_callBK (cr_sortK (b := b) mS F hbd (hr.mono hk)) hg hm hb (pa_cons h.pe pa_nil hst) (pk_cons (pe_glob (v := .ref fa) hgf hmf rfl hdf) (pk_cons pe_bl pk_nil)) (by decide) (by decide) he hpl hall hnone hks) fun σ H Qv q => ?_, .sortK h.mo⟩
  obtain ⟨F0, env, R, q⟩ := q
  refine opd h.mo R q fun r e' v F' H' R' ev ok ⟨ds, kf, l, h1, h2, h3, h4, h5, z⟩ => ?_
  obtain ⟨a, xs, rfl, g1, g2⟩ := ok.vw R' l
  exact ⟨F', a, xs, ds, kf, rfl, rfl, R'.sub, .inl (.inl g1), g2, h1, h2, h3, h4, h5, NPost.of R' (EPost.step ev (z _ (List.mergeSort_perm _ _) (dataLe_srt ds)))⟩
end
end LV


set_option Elab.async false
set_option linter.all false
set_option maxRecDepth 100000
set_option maxHeartbeats 1000000
namespace LV
open PySem PySem.Spec L2
/-! ### *e in a display; defs with *rest -/
section
variable {X : Cx} {c : Ct} {W : WX} {e : Expr} {es : List Expr} {w : EW} {wl : AW} {p : Pos}
def wStar (w : EW) (wl : AW) : AW := fun env Q E => wFz w env (fun r e1 => ∃ d ds, look e1 r = some d ∧ (d = .tup ds ∨ d = .lst ds) ∧ wl e1 (fun rs e2 => Q (ds.map Rv.fz ++ rs) e2) E) E
theorem opsOk_fz {M : Md} {F : Hp} {σ : St} : ∀ {xs : List V} {ds : List D} {vs : List V} {rs : List Rv}, RepL M F xs ds → OpsOk M F σ vs rs → OpsOk M F σ (xs ++ vs) (ds.map Rv.fz ++ rs)
  | _, _, _, _, .nil, h => h
  | _, _, _, _, .cons h r, h' => ⟨h, opsOk_fz r h'⟩
theorem sa_star (h : SE X c W e w) (h2 : SA X c W es wl) (hs : starEach (.Starred e p :: es) X.env = (true, eval e X.env) :: starEach es X.env := by rfl) : SA X c W (.Starred e p :: es) (wStar w wl) := by
  refine ⟨PA.imp (StX.pa_star h.pe h2.pa hs) fun σ H Q q => ?_, ⟨fun hQ hE q => h.mo.fz.mo (fun r e ⟨d, ds, a, b, q⟩ => ⟨d, ds, a, b, h2.mo.mo (fun rs e q => hQ _ _ q) hE q⟩) hE q⟩⟩
  obtain ⟨F, env, R, q⟩ := q
  refine opd h.mo R q fun r e1 v F1 H1 R1 ev1 ok1 ⟨d, ds, l, hd, q1⟩ => ?_
  have core : ∀ a xs, v = .ref a → (SqT X.K H1 a xs ∨ SqL X.K H1 a xs) → RepL (mdX X) F1 xs ds → ∃ (p : Addr) (xs : List V), v = V.ref p ∧ (SqT X.K H1 p xs ∨ SqL X.K H1 p xs) ∧ ARd (mdX X) c W wl σ H1 fun ys H2 => Q (xs ++ ys) H2 := fun a xs e hx hr => by
    refine ⟨a, xs, e, hx, F1, e1, R1, h2.mo.mo (fun rs e2 q2 => ?_) (fun _ _ z => XPost.step ev1 z) q1⟩
    intro vs F2 H2 R2 ev2 ok2
    exact q2 (xs ++ vs) F2 H2 R2 (ev1.trans ev2) (opsOk_fz (hr.same ev2.fs) ok2)
  rcases hd with rfl | rfl
  · obtain ⟨a, xs, e, h1, h2⟩ := ok1.vw R1 l
    exact core a xs e (.inl (Same.sqT R1.sub h1)) h2
  · obtain ⟨a, xs, e, h1, h2⟩ := ok1.vw R1 l
    exact core a xs e (.inr (.inl (.inl h1))) h2
end
/-- a def that takes any number of arguments behind the first ones, by its promise -/
structure FnV (P : Program) (w : World) (K : PySem.W.Frag) (mg : Str → Option Value) (base : Heap) (k : Nat) (f : Addr) (sp : Sp) : Prop where
  run : ∀ (A : Around) (outer : List Env) (s : Shared) (H : Hp) (us : List Value) (vs : List V) (Q : VK) (E : XK), RoomG k A → Env0 P w K mg base A outer s H → Vals vs us → sp vs H Q E → codeAny (model P w) A (.call (.ref f) ⟨us, []⟩) (CR (L2.CX P w) outer P w H s Q E) s
theorem FnV.mono {P : Program} {w : World} {K : PySem.W.Frag} {mg : Str → Option Value} {base : Heap} {j k : Nat} {f : Addr} {sp : Sp} (F : FnV P w K mg base j f sp) (h : j ≤ k) : FnV P w K mg base k f sp := ⟨fun A outer s H us vs Q E hr => F.run A outer s H us vs Q E (hr.mono h)⟩
def spV (M : Md) (n : Nat) (S : FSpec) : Sp := fun vs H Q E => ∃ ws rest, vs = ws ++ rest ∧ ws.length = n ∧ rest.length ≤ sizeLine ∧ ∀ p, H p = none → toSp M S (ws ++ [V.ref p]) (upd H p (.tup rest)) Q E
structure DefAtV (K : PySem.W.Frag) (mg : Str → Option Value) (x : Str) (st : Stmt) (ps : List Str) (pv : Str) (f : Addr) (fd : FuncData) : Prop where
  fn : Fun K x x st f fd
  at_ : mg x = some (.ref f)
  bd : ∀ us rest : List Value, us.length = ps.length → bindArgs fd ⟨us ++ rest, []⟩ = (newTuple rest >>= fun t => pure (ps.zip us ++ [(pv, t)]))
structure OkV (P : Program) (w : World) (K : PySem.W.Frag) (mg : Str → Option Value) (base : Heap) (x : Str) (n : Nat) (k : Nat) (S : FSpec) : Prop where
  ex : ∃ f, FnV P w K mg base k f (spV ⟨K, mg, w⟩ n S) ∧ mg x = some (.ref f) ∧ PySem.W.keepIn K (.ref f) = true
theorem okV_mk {P : Program} {w : World} {K : PySem.W.Frag} {mg : Str → Option Value} {base : Heap} {x : Str} {st : Stmt} {f : Addr} {fd : FuncData} {N ps : List Str} {pv : Str} {k : Nat} {S : FSpec} {b : SW} (D : DefAtV K mg x st ps pv f fd) (Sc : FnScope N (ps ++ [pv]) (defScope st)) (kp : Keeps S [] (ps.length + 1) N.length b)
    (hbody : ∀ (cdv : Value) (A : Around) (outer : List Env) (s : Shared) (H : Hp) (E : XK), RoomG k (A.deeper (PyProof.Rows.envOfC x (defScope st) s.heap.objs.size f cdv)) →
      ∀ (σ₀ : L2.St) (h₀ : Hp) (xc : Addr → Value → Option Addr → Prop), SSs (cxOf (L2.CX P w) P w K mg base N x (defScope st) f cdv A outer s H E) ⟨[], σ₀, h₀, xc⟩ (fun cls d _ H => E cls d H) (defBody st) b) :
    OkV P w K mg base x ps.length (k + 1) S := by
  have hpl : (ps ++ [pv]).length ≤ N.length := by have := congrArg List.length Sc.pre; rw [List.length_take] at this; omega
  obtain ⟨oc, od, kV, doc, pm, an, cdv, ct, osl, e, lk, hcd⟩ := D.fn.ex
  subst e
  refine ⟨f, ⟨fun A outer s H us vs Q E hr e0 r ⟨ws, rest, ev, hl, hz, hq⟩ => ?_⟩, D.at_, D.fn.kp⟩
  subst ev
  obtain ⟨u1, u2, eu, r1, r2⟩ := StX.vals_split r
  subst eu
  have hn : H s.heap.objs.size = none := e0.hok.fresh (Nat.le_refl _)
  have hl1 : u1.length = ps.length := by rw [← r1.length]; exact hl
  have hl2 : u2.length ≤ sizeLine := by rw [← r2.length]; exact hz
  refine StX.run_bnd lk hcd Sc hr.rm e0 (G := fun xs H2 => ∃ p, H p = none ∧ xs = ws ++ [V.ref p] ∧ H2 = upd H p (.tup rest)) (fun A' Ex Q' h => ?_) fun s2 H2 xs ⟨p, hp, ex, eH⟩ hr' => ?_
  · rw [D.bd u1 u2 hl1]
    refine wpAny_bind (wpAny_newTuple (wpAny_pure ?_) hl2)
    have new : ObjOk P w (upd H s.heap.objs.size (.tup rest)) (s.heap.push ({ cls := .type "tuple", data := .seq u2.toArray } : Obj)) s.heap.objs.size (.tup rest) := ⟨hz, u2, r2, ⟨_, Heap.get?_push_size _ rfl, rfl, _, rfl⟩⟩
    have un := StX.un_laid (fs := frs outer) (s := s) (o := ({ cls := .type "tuple", data := .seq u2.toArray } : Obj)) (u := .tup rest) hn
    have z := h _ _ (ws ++ [V.ref s.heap.objs.size]) (u1 ++ [Value.ref s.heap.objs.size]) (StX.env0_laid e0 new) un rfl (fun e s' => StX.cxUp outer s H _ _ E e s' un (fun b o q => Heap.get?_push_of_some _ q) rfl) (r1.append (.cons rfl .nil))
      (by rw [List.length_append, List.length_append, hl]; rfl) ⟨_, hn, rfl, rfl⟩
    rw [List.zip_append hl1.symm] at z
    exact z
  · subst ex eH
    obtain ⟨F, args, R, h⟩ := hq p hp
    have hf := kp.fit _ _ _ h
    have B := hbody cdv A outer s2 (upd H p (.tup rest)) E ⟨hr', hr.gd⟩ (start N (ws ++ [V.ref p])) (upd H p (.tup rest)) (fun _ _ _ => False)
    refine ⟨_, B.ps, F, startE N.length args, R.begin hf (by rw [List.length_append] at hpl; exact hpl), B.mo.mo (K := KsFn [] args _ _) ⟨fun e q => ?_, fun r e q => ?_, fun _ z => z.elim, fun _ z => z.elim, fun xx e q => ?_⟩ (kp.run _ _ _ h)⟩
    · intro σ' F' H' R' ev
      obtain ⟨as, ea, q⟩ := q
      obtain ⟨R2, ev2, _⟩ := R.finish hf R' ev ea
      exact q .non F' H' R2 ev2 .non
    · intro v σ' F' H' R' ev ok
      obtain ⟨as, ea, q⟩ := q
      obtain ⟨R2, ev2, sub⟩ := R.finish hf R' ev ea
      refine q v F' H' R2 ev2 ?_
      cases r with
      | fz d => exact ok
      | sl i => exact ok.elim
      | ow o =>
        obtain ⟨p, a1, a2, a3, a4, a5⟩ := ok
        exact ⟨p, a1, a2, a3, fun z => a4 (sub p z), a5⟩
    · intro cl d σ' F' H' R' ev xo
      obtain ⟨as, ea, q⟩ := q
      obtain ⟨R2, ev2, _⟩ := R.finish hf R' ev ea
      exact q cl d F' H' R2 ev2 xo
section
variable {X : Cx} {c : Ct} {W : WX} {e : Expr} {es : List Expr} {wl : AW} {p pos : Pos} {x : Str} {n k j : Nat} {S : FSpec}
def wCallV (n : Nat) (S : FSpec) (wl : AW) : EW := fun env Q E => wl env (fun rs e1 => ∃ ds e2, frzL e1 rs = some (ds, e2) ∧ n ≤ ds.length ∧ ds.length ≤ sizeLine ∧ S ((ds.take n).map Val.fz ++ [.fz (.tup (ds.drop n))]) (fun r _ => (∀ i, r ≠ .sl i) ∧ Q r e2) (fun x _ => E x e2)) E
theorem Mono.callV (mS : MonoF S) (m : MonoA wl) : Mono (wCallV n S wl) := ⟨fun hQ hE h => m.mo (fun rs e1 ⟨ds, e2, a, b, c, q⟩ => ⟨ds, e2, a, b, c, mS.mo (fun r _ ⟨z, q⟩ => ⟨z, hQ _ _ q⟩) (fun _ _ z => hE _ _ z) q⟩) hE h⟩
theorem ownN {vs : List V} {ds : List D} : ∀ b, ¬ Own (sV vs) (eV (ds.map Val.fz)) b := fun b ⟨i, o, h1, h2⟩ => by
  unfold eV at h1
  rw [List.getElem?_map, List.getElem?_map] at h1
  cases h : ds[i]? with
  | none => rw [h] at h1; cases h1
  | some d => rw [h] at h1; cases h1
theorem relN {M : Md} {F H : Hp} {vs : List V} {ds : List D} (sm : Same F H) (r : RepL M F vs ds) : Rel M ct0 F H (sV vs) (eV (ds.map Val.fz)) := by
  have key : ∀ {i : Nat} {v : Val}, (eV (ds.map Val.fz))[i]? = some (some v) → ∃ d, v = .fz d ∧ ds[i]? = some d := fun {i v} e => by
    unfold eV at e
    rw [List.getElem?_map, List.getElem?_map] at e
    cases h : ds[i]? with
    | none => rw [h] at e; cases e
    | some d => rw [h] at e; cases e; exact ⟨d, rfl, rfl⟩
  refine ⟨sm, by unfold eV sV; rw [List.length_map, List.length_map, List.length_map, r.length], fun i d e => ?_, fun i o e => ?_, fun i a C ks vs e => ?_, fun i j o u p e => ?_, fun i hi => (nomatch hi), fun b u e => (nomatch e), fun i o p e => ?_⟩
  · obtain ⟨d', e1, h⟩ := key e
    cases e1
    obtain ⟨v, h1, h2⟩ := r.get' h
    exact ⟨v, by unfold sV; rw [List.getElem?_map, h1]; rfl, h2⟩
  all_goals
    obtain ⟨d', e1, h⟩ := key e
    cases e1
theorem callV_core {σ : L2.St} {H : Hp} {Q : VK} (mS : MonoF S) (ml : MonoA wl) (h : ERd (mdX X) c W (wCallV n S wl) σ H Q) :
    ARd (mdX X) c W wl σ H fun vs H1 => spV (mdX X) n S vs H1 Q (WE W σ) := by
  obtain ⟨F, env, R, h⟩ := h
  refine ⟨F, env, R, ml.mo (fun rs e1 ⟨ds, e2, l, hn, hz, q⟩ => ?_) (fun _ _ z => z) h⟩
  intro vs F1 H1 R1 ev1 ok
  obtain ⟨F2, R2, ev2, rl⟩ := frzL_ok R1 ok l
  have lgv := rl.length
  refine ⟨vs.take n, vs.drop n, (List.take_append_drop n vs).symm, by rw [List.length_take, lgv]; omega, by rw [List.length_drop]; omega, fun p hp => ?_⟩
  have hF : F2 p = none := R2.sub.free hp
  have sm3 : Same (upd F2 p (.tup (vs.drop n))) (upd H1 p (.tup (vs.drop n))) := same_newF R2.sub hp
  have evN : Evo Nob Nob F2 H1 (upd F2 p (.tup (vs.drop n))) (upd H1 p (.tup (vs.drop n))) := Evo.newF hp hF
  have rl3 : RepL (mdX X) (upd F2 p (.tup (vs.drop n))) (vs.take n ++ [V.ref p]) (ds.take n ++ [.tup (ds.drop n)]) :=
    ((rl.take n).same (same_upd hF)).append (.cons (.tup (.inl (.inl upd_same)) ((rl.drop n).same (same_upd hF))) .nil)
  have eArgs : (ds.take n).map Val.fz ++ [.fz (.tup (ds.drop n))] = (ds.take n ++ [D.tup (ds.drop n)]).map Val.fz := by rw [List.map_append]; rfl
  rw [eArgs] at q
  have toN : ∀ {as : List Val} {F' H' : Hp}, Evo (Own (sV (vs.take n ++ [V.ref p])) (eV ((ds.take n ++ [D.tup (ds.drop n)]).map Val.fz))) (Own (sV (vs.take n ++ [V.ref p])) (eV as)) (upd F2 p (.tup (vs.drop n))) (upd H1 p (.tup (vs.drop n))) F' H' → Evo Nob Nob F2 H1 F' H' := fun {as F' H'} ev =>
    evN.trans ⟨ev.fs, fun b o h => (ev.fn b o h).imp id fun z => z.imp id fun z => (ownN b z).elim, fun b o h _ => ev.hk b o h (ownN b), ev.ht, fun b h => h.elim⟩
  refine ⟨_, _, relN sm3 rl3, mS.mo (fun r as ⟨nsl, z⟩ => ?_) (fun xx as z => ?_) q⟩
  · intro cl d F' H' R' ev xo
    have evT := toN ev
    exact z cl d F' H' (R2.evo evT R'.sub) ((ev1.trans ev2).trans evT.nob) xo
  · intro v F' H' R' ev rv
    have evT := toN ev
    refine z v F' H' (R2.evo evT R'.sub) ((ev1.trans ev2).trans evT.nob) ?_
    cases r with
    | fz d => exact rv
    | sl i => exact absurd rfl (nsl i)
    | ow o =>
      obtain ⟨pp, a1, a2, a3, a4, a5⟩ := rv
      have h1 : H1 pp = none := evN.noneOf a5
      exact ⟨pp, a1, a2, a3, R2.notOwn h1, (ev1.trans ev2).noneOf h1⟩
theorem se_callV (O : OkV X.prog X.w X.K X.mg X.base x n k S) (mS : MonoF S) (tk : Takes X W) (hr : RoomG j X.A) (hg : Gl X x) (ha : SA X c W (e :: es) wl) (hk : k ≤ j := by decide) (hdb : (x == ("__debug__" : Str)) = false := by decide)
    (he : starEach (e :: es) X.env = (false, eval e X.env) :: starEach es X.env := by rfl) (hpl : (backTo pos (starEach es X.env)).any (·.1) = false := by rfl) :
    SE X c W (.Call (.Name x p) (e :: es) [] pos) (wCallV n S wl) := by
  obtain ⟨f, F, hm, hkp⟩ := O.ex
  refine ⟨⟨fun pins s σ H Q I h => ?_⟩, .callV mS ha.mo⟩
  refine wpAny_Call_Name_kw (ld_glob I hg hm (PySem.W.callWith_K (h₀ := X.base) I.ok.mod.kin hkp (thn (ha.pa.run pos pins s σ H _ I (callV_core mS ha.mo h)) fun us s1 ⟨vs, H1, I1, r, q⟩ => ⟨I1.kIn, ?_⟩) he hpl) hdb)
  refine wpAny_call (codeAny_mono (F.run X.A X.stack s1 H1 us vs Q (WE W σ) (hr.mono hk) I1.env0 r q) fun r s' hq => ?_)
  match r, hq with
  | .error e, hq => exact passAt tk σ pins H1 s1 e s' I1 hq
  | .ok (.ret u), hq => exact I1.after hq
  | .ok .next, hq => exact hq.elim
  | .ok .brk, hq => exact hq.elim
  | .ok .cont, hq => exact hq.elim
end
end LV


set_option Elab.async false
set_option linter.all false
set_option maxRecDepth 100000
set_option maxHeartbeats 1000000
namespace LV
open PySem PySem.Spec L2
/-! ### enumerate(e), e a tuple or a list -/
open AutoSeq1 (wpAny_loadPart') in
theorem enumT_new (t : Addr) (its : Array Value) (n : Nat) (dct : Option Addr) (sl : Array (Option Value)) :
    Meets (Builtin.«enumerate.__new__» ⟨[.type "enumerate", .ref t], []⟩) (fun _ R z => z.heap.get? t = some { cls := .type "tuple", dict := dct, data := .seq its n, slots := sl } ∧
      R (.ok (.ret (.ref (z.heap.push { cls := .type "tuple_iterator", data := .fields #[.ref t, .int 0 0] }).objs.size)))
        { z with heap := (z.heap.push { cls := .type "tuple_iterator", data := .fields #[.ref t, .int 0 0] }).push { cls := .type "enumerate", data := .fields #[.none, .bool false, .ref z.heap.objs.size, rawInt 0, .none, .none] } }) :=
  .of_wp fun prog w A R z hz => by
    obtain ⟨hp, g, d, tk, os⟩ := z; obtain ⟨ht, hr⟩ := hz
    have hsubE := sub_enumerate
    have hT : Heap.IsTuple (Shared.heap ⟨hp, g, d, tk, os⟩) t its := ⟨_, ht, rfl, n, rfl⟩
    wp_walk using wpAny_loadPart' ht
    refine wpAny_stack_any fun fr => wpAny_pure ?_
    split
    · rename_i cc _ _ _ _ _
      cases (cc == Value.type "enumerate")
      · wp_walk using wpAny_loadPart' ht, wpAny_pyIter_tuple hT
        exact ⟨_, rfl, hr⟩
      · wp_walk using wpAny_loadPart' ht, wpAny_pyIter_tuple hT
        exact ⟨_, rfl, hr⟩
    · wp_walk using wpAny_loadPart' ht, wpAny_pyIter_tuple hT
      exact ⟨_, rfl, hr⟩
section
variable {prog : Program} {w : World} {A : Around} {E : Value → Shared → Prop} {s : Shared}
theorem call_enumT {t : Addr} {its : Array Value} {Q : Value → Shared → Prop} (hT : s.heap.IsTuple t its)
    (hq : ∀ h', IsEnum h' (s.heap.objs.size + 1) s.heap.objs.size 0 .none → h'.IsTupleIter s.heap.objs.size t 0 → (∀ b o, s.heap.get? b = some o → h'.get? b = some o) → Q (.ref (s.heap.objs.size + 1)) { s with heap := h' }) :
    wpAny (model prog w) A (call (.type "enumerate") [.ref t]) Q E s := by
  obtain ⟨⟨cl, dct, dt, sl⟩, ht, hc, n, hd⟩ := hT
  obtain rfl : cl = .type "tuple" := hc
  obtain rfl : dt = .seq its n := hd
  refine callType_new F.called_enumerate (by decide) (F.typeCall_enumerate_1 _) (F.newCall_enumerate_1 _) (fun ob => F.args_object_init_2 ob _) F.entry_enumerate_new (enumT_new t its n dct sl) ⟨ht, ?_⟩
  have hz : (s.heap.push { cls := .type "tuple_iterator", data := .fields #[.ref t, .int 0 0] }).objs.size = s.heap.objs.size + 1 := Heap.size_push ..
  show _ ∧ _
  rw [hz]
  have he := Heap.get?_push_size (s.heap.push { cls := .type "tuple_iterator", data := .fields #[.ref t, .int 0 0] }) (o := { cls := .type "enumerate", data := .fields #[.none, .bool false, .ref s.heap.objs.size, rawInt 0, .none, .none] }) rfl
  rw [hz] at he
  exact ⟨⟨_, he, rfl⟩, hq _ he ⟨_, Heap.get?_push_of_some _ (Heap.get?_push_size _ rfl), rfl, rfl⟩ fun b o x => Heap.get?_push_of_some _ (Heap.get?_push_of_some _ x)⟩
end
/-- the tuple at a, each item in a new pair -/
def IteT (K : PySem.W.Frag) (a : Addr) : It :=
  ⟨fun i H => ∃ (xs : List V) (x : V), SqT K H a xs ∧ xs[i]? = some x, fun i H v H' => ∃ T x, v = .ref T ∧ H T = none ∧ H' = upd H T (.tup [.int (i : Nat), x]) ∧ ∀ xs, SqT K H a xs → xs[i]? = some x, fun i H => ∃ xs : List V, SqT K H a xs ∧ xs.length ≤ i⟩
theorem turn_enumT {P : Program} {w : World} {K : PySem.W.Frag} {elts : List Expr} {kk : Nat} {tpos : Pos} (a e it : Addr) :
    Turn P w K (.Tuple elts kk tpos) (IteT K a) [e, it] e (fun i h => (∃ old, IsEnum h e it ((i : Nat) : Int) old) ∧ h.IsTupleIter it a i ∧ e ≠ it) where
  mem := List.mem_cons_self
  obj := fun i h ⟨⟨old, he⟩, ⟨o, ho, hc, hd⟩, _⟩ b hb => by
    rcases List.mem_cons.mp hb with z | z
    · rw [z]; exact ⟨_, he, fun v q => nomatch q⟩
    · rw [List.mem_singleton.mp z]; exact ⟨o, ho, fun v q => by rw [hd] at q; cases q⟩
  keep := fun i h h' ⟨⟨old, he⟩, hi, hne⟩ k => ⟨⟨old, k e List.mem_cons_self _ he⟩, hi.at fun o q => k it (List.mem_cons_of_mem _ List.mem_cons_self) o q, hne⟩
  item := by
    intro X hP hw hK hc i pins s σ H E I hf st hg
    subst hP hw hK
    obtain ⟨⟨old, he⟩, hit, hne⟩ := st
    obtain ⟨xs, x, hq, hx⟩ := hg
    obtain ⟨its, rv, p, hz⟩ := I.tuple hq
    obtain ⟨u, hu, ru⟩ := rv.get hx
    have hel : e < s.heap.objs.size := Heap.lt_size he
    have hil : it < s.heap.objs.size := by obtain ⟨_, q, _⟩ := hit; exact Heap.lt_size q
    have hap : a ≠ e ∧ a ≠ it := by
      obtain ⟨o1, h1, c1, _⟩ := p
      obtain ⟨o2, h2, c2, _⟩ := id hit
      refine ⟨fun z => ?_, fun z => ?_⟩
      · rw [z, he] at h1; cases h1; exact absurd (show Value.type "enumerate" = Value.type "tuple" from c1) (by decide)
      · rw [z, h2] at h1; cases h1; rw [c2] at c1; exact absurd c1 (by decide)
    have hli : i < its.toArray.size := by rw [List.size_toArray]; exact (List.getElem?_eq_some_iff.mp hu).1
    refine wpAny_pyNext_enum_itemD (Draws.tuple (A := X.A.in1) (I.ok.hd hc) it a hap.2 its.toArray) he ⟨hit, p⟩ hli hne (fun z => ?_) fun y h' tk hy ho ⟨hit', _⟩ hT hsz hk => ?_
    · rcases List.mem_cons.mp z with z | z
      · exact hne z
      · exact hap.1 (List.mem_singleton.mp z).symm
    have ey : y = u := by
      have : its[i]? = some y := by simpa using hy
      rw [hu] at this; cases this; rfl
    subst ey
    refine ⟨_, rfl, wpAny_letOwnedTupleGo_enum (s := { s with heap := h', toks := tk + 1 }) ho fun h2 he' sb => ?_⟩
    have hT2 : h2.get? s.heap.objs.size = some { cls := .type "tuple", data := .seq #[.int i tk, y] } := (sb.2 _ (Nat.ne_of_gt hel)).trans hT
    have new : ObjOk X.prog X.w (upd H s.heap.objs.size (.tup [.int (i : Nat), x])) h2 s.heap.objs.size (.tup [.int (i : Nat), x]) :=
      ⟨show 2 ≤ sizeLine by decide, [.int i tk, y], .cons ⟨_, rfl⟩ (.cons ru .nil), ⟨_, hT2, rfl, _, rfl⟩⟩
    have I1 : L2.Inv X pins σ (upd H s.heap.objs.size (.tup [.int (i : Nat), x])) { s with heap := h2, toks := tk + 1 } :=
      I.turnedNew (ch := [e, it]) (fun b ob hb q => by
        have n1 : b ≠ e := fun z => hb (by rw [z]; exact List.mem_cons_self)
        have n2 : b ≠ it := fun z => hb (by rw [z]; exact List.mem_cons_of_mem _ List.mem_cons_self)
        exact (sb.2 b n1).trans (hk b ob n1 n2 q)) hf (Nat.le_refl _) new
    refine ⟨.ref s.heap.objs.size, _, I1, rfl, ⟨_, x, rfl, I.hok.fresh (Nat.le_refl _), rfl, fun ys hy2 => by rw [I.tuple_inj hy2 hq]; exact hx⟩, ⟨⟨y, ?_⟩, hit'.at fun o q => (sb.2 it (Ne.symm hne)).trans q, hne⟩, fun b hb => ?_⟩
    · rw [show ((i + 1 : Nat) : Int) = (i : Int) + 1 by omega]; exact he'
    · have hb' : b < s.heap.objs.size := by
        rcases List.mem_cons.mp hb with z | z
        · rw [z]; exact hel
        · rw [List.mem_singleton.mp z]; exact hil
      rw [upd_ne (Nat.ne_of_lt hb')]
      exact (hf b hb).1
  done := by
    intro X hP hw hK hc i pins s σ H E I hf st hg
    subst hP hw hK
    obtain ⟨⟨old, he⟩, hit, hne⟩ := st
    obtain ⟨xs, hq, hx⟩ := hg
    obtain ⟨its, rv, p, hz⟩ := I.tuple hq
    obtain ⟨f0, f1, f2, f3, f4, f5⟩ := hf it (List.mem_cons_of_mem _ List.mem_cons_self)
    have hl := rv.length
    have hai : a ≠ it := fun z => by
      obtain ⟨o1, h1, c1, _⟩ := p
      obtain ⟨o2, h2, c2, _⟩ := id hit
      rw [z, h2] at h1; cases h1; rw [c2] at c1; exact absurd c1 (by decide)
    have hT0 : s.TypeIs (.ref e) "enumerate" := ⟨_, he, rfl⟩
    unfold pyNext
    refine wpAny_bind (wpAny_attempt (wpAny_callSpecial?_slot (name := Str.ofString "__next__") hT0 F.slot_enumerate_next (wpAny_call_entry F.slot_enumerate_next hT0 F.entry_enumerate_next ?_ (F.args_enumerate_next_1 _))))
    show wpAny _ _ (field (.ref e) 2 >>= _) _ _ _
    refine wpAny_bind (wpAny_field he rfl (x := .ref it) rfl ?_)
    refine wpAny_bind (wpAny_nextOf_tuple_end (I.ok.hd hc) hit p (by rw [Array.getElem?_eq_none]; rw [List.size_toArray]; omega) fun h2 y eb ⟨o, ho, hoc⟩ => ?_)
    refine wpAny_bind (wpAny_isInstance (T := "StopIteration") (b := true) ⟨o, ho, hoc⟩ isSubtype_stop ?_)
    exact wpAny_pure ⟨rfl, I.turned (t' := s.toks) (fun b o hb q => eb b o hb q) f0 f1 f3 f4 f5⟩
  self := fun A i s Q E ⟨⟨_, he⟩, _⟩ h => wpAny_pyIter_enum he h
def iEnumT (K : PySem.W.Frag) (ta : TA) : TI := fun σ H R => ta σ H fun vs H1 => ∃ a xs, vs = [.ref a] ∧ SqT K H1 a xs ∧ R (IteT K a) H1
theorem pi_enumT {X : Cx} {e : Expr} {ta : TA} {p pos tpos : Pos} {elts : List Expr} {kk : Nat} (hg : Gl X "enumerate") (hm : X.mg "enumerate" = none) (ha : PA X [e] ta) (hs : starEach [e] X.env = [(false, eval e X.env)] := by rfl) :
    PI X (.Tuple elts kk tpos) (.Call (.Name "enumerate" p) [e] [] pos) (iEnumT X.K ta) := by
  refine ⟨fun pins s σ H R I h => PyProof.Rows.Call_ (ld_blt I hg hm PyProof.Rows.boot_enumerate (PyProof.Rows.callWith_type1 (thn (ha.run pos pins s σ H _ I h) fun us s1 ⟨vs, H1, I1, r1, a, xs, ex, hq, q⟩ => ?_) hs rfl))⟩
  subst ex
  obtain rfl := Vals.ref1 r1
  obtain ⟨its, rv, p', hz⟩ := I1.tuple hq
  refine call_enumT p' fun h' he hit hk => wpAny_pyIter_enum he ?_
  refine ⟨s1.heap.objs.size + 1, [s1.heap.objs.size + 1, s1.heap.objs.size], _, _, H1, rfl, I1.kept (t' := s1.toks) hk, turn_enumT a (s1.heap.objs.size + 1) s1.heap.objs.size, ⟨⟨.none, he⟩, hit, Nat.succ_ne_self _⟩, fun b hb => ?_, q⟩
  have hle : s1.heap.objs.size ≤ b := by
    rcases List.mem_cons.mp hb with z | z
    · rw [z]; exact Nat.le_add_right _ _
    · rw [List.mem_singleton.mp z]; exact Nat.le_refl _
  exact I1.fpOk hle (I1.hok.fresh hle)
def enumD : Int → List D → List D
  | _, [] => []
  | i, d :: ds => .tup [.int i, d] :: enumD (i + 1) ds
theorem enumD_len : ∀ (i : Int) (ds : List D), (enumD i ds).length = ds.length
  | _, [] => rfl
  | i, d :: ds => by rw [enumD, List.length_cons, enumD_len, List.length_cons]
theorem enumD_get : ∀ {ds : List D} {k : Int} {i : Nat} {d : D}, (enumD k ds)[i]? = some d → ∃ a, ds[i]? = some a ∧ d = .tup [.int (k + i), a]
  | [], k, i, d, h => by simp [enumD] at h
  | a :: ds, k, 0, d, h => by simp [enumD] at h; exact ⟨a, rfl, by rw [← h]; simp⟩
  | a :: ds, k, i + 1, d, h => by
    have h' : (enumD (k + 1) ds)[i]? = some d := by simpa [enumD] using h
    obtain ⟨x, h1, h2⟩ := enumD_get h'
    refine ⟨x, by simpa using h1, ?_⟩
    rw [h2, show k + 1 + (i : Int) = k + ((i + 1 : Nat) : Int) by omega]
section
variable {X : Cx} {c : Ct} {W : WX} {a : Expr} {wl : AW} {p pos tpos : Pos} {elts : List Expr} {kk : Nat}
theorem Walks.enumT {M : Md} {F : Hp} {p : Addr} {xs : List V} {ds : List D} (h : SqT M.K F p xs) (r : RepL M F xs ds) : Walks M c F (IteT M.K p) (enumD 0 ds) yesK := by
  refine ⟨fun F' H' σ' env' R s _ i hi => ⟨xs, Same.sqT (s.trans R.sub) h, ?_⟩, fun F' H' σ' env' R s _ i d hd => ?_⟩
  · rw [enumD_len] at hi
    rw [r.length]; exact hi
  · obtain ⟨da, h1, rfl⟩ := enumD_get hd
    obtain ⟨x, hx, rx⟩ := r.get' h1
    have k1 := Same.sqT (s.trans R.sub) h
    refine ⟨⟨xs, x, k1, hx⟩, fun v H'' ⟨T, x', e1, hT, e2, f1⟩ => ?_⟩
    subst e1; subst e2
    have := f1 xs k1; rw [hx] at this; cases this
    rw [show (0 : Int) + (i : Int) = (i : Int) by omega]
    exact R.pair hT (.int _) (rx.same s)
def wEnum (wl : AW) : IW := fun env Q E => wl env (fun rs e => ∃ ds e', frzL e rs = some ([.tup ds], e') ∧ Q (enumD 0 ds) yesK e') E
theorem si_enum (hg : Gl X "enumerate") (hm : X.mg "enumerate" = none) (ha : SA X c W [a] wl) (hs : starEach [a] X.env = [(false, eval a X.env)] := by rfl) : SI X c W (.Tuple elts kk tpos) (.Call (.Name "enumerate" p) [a] [] pos) (wEnum wl) := by
  refine ⟨PI.imp (pi_enumT hg hm ha.pa hs) fun σ H R' q => ?_, ⟨fun hQ hE h => ha.mo.mo (fun rs e ⟨ds, e', l, z⟩ => ⟨ds, e', l, hQ _ _ _ z⟩) hE h⟩⟩
  obtain ⟨F, env, R, q⟩ := q
  refine ⟨F, env, R, ha.mo.mo (fun rs e1 ⟨ds, e', l, z⟩ => ?_) (fun _ _ z => z) q⟩
  intro vs F1 H1 R1 ev1 ok
  obtain ⟨F2, R2, ev2, rl⟩ := frzL_ok R1 ok l
  cases rl with
  | cons q1 rl =>
    cases rl
    cases q1 with
    | tup h1 r1 => exact ⟨_, _, rfl, Same.sqT R2.sub h1, z F2 H1 _ R2 (ev1.trans ev2) (Walks.enumT h1 r1)⟩
end
end LV


set_option Elab.async false
set_option linter.all false
set_option maxRecDepth 100000
set_option maxHeartbeats 1000000
namespace LV
open PySem PySem.Spec L2
/-! ### the order of ints and of nested tuples of ints -/
mutual
def ordK (r : Int → Int → Bool) (z : Nat → Nat → Bool) : NestedKey → NestedKey → Bool
  | .num a, .num b => r a b
  | .tup as, .tup bs => ordKs r z as bs
  | _, _ => false
def ordKs (r : Int → Int → Bool) (z : Nat → Nat → Bool) : List NestedKey → List NestedKey → Bool
  | [], [] => z 0 0
  | [], _ :: _ => z 0 1
  | _ :: _, [] => z 1 0
  | a :: as, b :: bs => if NestedKey.beq a b = true then ordKs r z as bs else ordK r z a b
end
mutual
def cmpK : NestedKey → NestedKey → Bool
  | .num _, .num _ => true
  | .tup as, .tup bs => cmpKs as bs
  | _, _ => false
def cmpKs : List NestedKey → List NestedKey → Bool
  | a :: as, b :: bs => cmpK a b && cmpKs as bs
  | _, _ => true
end
structure ZOk (z : Nat → Nat → Bool) : Prop where
  s : ∀ a b, z (a + 1) (b + 1) = z a b
  l : ∀ n, z (n + 1) 0 = z 1 0
  r : ∀ n, z 0 (n + 1) = z 0 1
theorem lexAt_ks {r : Int → Int → Bool} {z : Nat → Nat → Bool} (hz : ZOk z) : ∀ as bs : List NestedKey, Ob.lexAt (fun j => NestedKey.beq (as.getD j .none) (bs.getD j .none)) (fun j => ordK r z (as.getD j .none) (bs.getD j .none)) (z as.length bs.length) 0 (min as.length bs.length) = ordKs r z as bs
  | [], [] => by simp [Ob.lexAt, ordKs]
  | [], _ :: _ => by simp [Ob.lexAt, ordKs, hz.r]
  | _ :: _, [] => by simp [Ob.lexAt, ordKs, hz.l]
  | a :: as, b :: bs => by
    rw [List.length_cons, List.length_cons, show min (as.length + 1) (bs.length + 1) = min as.length bs.length + 1 by omega, Ob.lexAt_succ, ordKs, hz.s]
    simp only [List.getD_cons_zero]
    by_cases h : NestedKey.beq a b = true
    · rw [if_pos h, if_pos h, ← lexAt_ks hz as bs]
      exact lexAt_shift _ 0 (fun j => by rw [show 0 + 1 + j = (0 + j) + 1 by omega]; simp) (fun j => by rw [show 0 + 1 + j = (0 + j) + 1 by omega]; simp)
    · rw [if_neg h, if_neg h]
theorem cmpKs_at : ∀ {as bs : List NestedKey} {j : Nat}, cmpKs as bs = true → j < as.length → j < bs.length → cmpK (as.getD j .none) (bs.getD j .none) = true
  | [], _, j, _, h, _ => by simp at h
  | _ :: _, [], j, _, _, h => by simp at h
  | a :: as, b :: bs, 0, h, _, _ => (Bool.and_eq_true_iff.mp h).1
  | a :: as, b :: bs, j + 1, h, h1, h2 => by
    simp only [List.getD_cons_succ]
    exact cmpKs_at (Bool.and_eq_true_iff.mp h).2 (by simpa using h1) (by simpa using h2)
theorem depth_at : ∀ {as : List NestedKey} {j : Nat}, (as.getD j .none).depth ≤ NestedKey.depthAll as
  | [], _ => by simp [NestedKey.depth]
  | a :: as, 0 => by simp [NestedKey.depthAll]; omega
  | a :: as, j + 1 => by
    have := depth_at (as := as) (j := j)
    simp [NestedKey.depthAll]; simp at this; omega
theorem nkDs_len : ∀ as : List NestedKey, (nkDs as).length = as.length
  | [] => rfl
  | a :: as => by rw [nkDs, List.length_cons, nkDs_len, List.length_cons]
theorem nkDs_at : ∀ {as : List NestedKey} {j : Nat}, j < as.length → (nkDs as)[j]? = some (nkD (as.getD j .none))
  | [], j, h => by simp at h
  | a :: as, 0, _ => rfl
  | a :: as, j + 1, h => by
    rw [nkDs, List.getElem?_cons_succ, List.getD_cons_succ]
    exact nkDs_at (by simpa using h)
section
variable {X : Cx} {F : Hp} {pins : List (Addr × Obj)} {σ : L2.St} {H : Hp} {s : Shared} {op : CmpOp} {r : Int → Int → Bool} {z : Nat → Nat → Bool}
theorem rc_key (I : L2.Inv X pins σ H s) (sm : Same F H) (hz : ZOk z)
    (rule : ∀ {A : Around} {l b : Addr} {items items2 : Array Value} {e r : Nat → Bool}, s.heap.IsTuple l items → s.heap.IsTuple b items2 → A.units < cLine →
      (∀ j (h1 : j < items.size) (h2 : j < items2.size), SeqAt.EqAt A.in1 s items[j] items2[j] (e j)) → (∀ j (h1 : j < items.size) (h2 : j < items2.size), e j = false → Ob.RcOp op A.in1 s items[j] items2[j] (r j)) →
      Ob.RcOp op A s (.ref l) (.ref b) (Ob.lexAt e r (z items.size items2.size) 0 (min items.size items2.size)))
    (base : ∀ (A : Around) (a b : Int) (t u : Tok), Ob.RcOp op A s (.int a t) (.int b u) (r a b)) :
    ∀ (n : Nat) (x y : NestedKey) (A : Around) (v w : V) (a b : Value), x.depth ≤ n → Rep (mdX X) F v (nkD x) → RelV v a → Rep (mdX X) F w (nkD y) → RelV w b → cmpK x y = true → A.units + n + 1 < cLine → Ob.RcOp op A s a b (ordK r z x y) := by
  intro n
  induction n with
  | zero =>
    intro x y A v w a b hd r1 v1 r2 v2 hc hu
    cases x with
    | num i =>
      cases y with
      | num j =>
        rw [nkD] at r1 r2
        cases r1; cases r2
        obtain ⟨t, rfl⟩ := v1
        obtain ⟨t', rfl⟩ := v2
        exact base _ _ _ _ _
      | _ => cases hc
    | tup ks => simp [NestedKey.depth] at hd
    | _ => cases hc
  | succ n ih =>
    intro x y A v w a b hd r1 v1 r2 v2 hc hu
    cases x with
    | num i =>
      cases y with
      | num j =>
        rw [nkD] at r1 r2
        cases r1; cases r2
        obtain ⟨t, rfl⟩ := v1
        obtain ⟨t', rfl⟩ := v2
        exact base _ _ _ _ _
      | _ => cases hc
    | tup ks =>
      cases y with
      | tup js =>
        rw [nkD] at r1 r2
        cases r1 with
        | @tup l xs _ h1 q1 =>
        cases r2 with
        | @tup m ys _ h2 q2 =>
        obtain rfl : a = Value.ref l := v1
        obtain rfl : b = Value.ref m := v2
        obtain ⟨its, rv, p1, _⟩ := I.tuple (Same.sqT sm h1)
        obtain ⟨its2, rv2, p2, _⟩ := I.tuple (Same.sqT sm h2)
        have l1 : its.toArray.size = ks.length := by rw [List.size_toArray, ← rv.length, q1.length, nkDs_len]
        have l2 : its2.toArray.size = js.length := by rw [List.size_toArray, ← rv2.length, q2.length, nkDs_len]
        have at1 : ∀ j (h : j < its.toArray.size), ∃ x, Rep (mdX X) F x (nkD (ks.getD j .none)) ∧ RelV x its.toArray[j] := fun j h => by
          obtain ⟨x, hx, rx⟩ := q1.get' (nkDs_at (as := ks) (j := j) (by rw [← l1]; exact h))
          obtain ⟨u, hu, ru⟩ := rv.get hx
          have : its.toArray[j]? = some u := by simpa using hu
          rw [Array.getElem?_eq_getElem h] at this
          cases this
          exact ⟨x, rx, ru⟩
        have at2 : ∀ j (h : j < its2.toArray.size), ∃ x, Rep (mdX X) F x (nkD (js.getD j .none)) ∧ RelV x its2.toArray[j] := fun j h => by
          obtain ⟨x, hx, rx⟩ := q2.get' (nkDs_at (as := js) (j := j) (by rw [← l2]; exact h))
          obtain ⟨u, hu, ru⟩ := rv2.get hx
          have : its2.toArray[j]? = some u := by simpa using hu
          rw [Array.getElem?_eq_getElem h] at this
          cases this
          exact ⟨x, rx, ru⟩
        have dk : NestedKey.depthAll ks ≤ n := by simp [NestedKey.depth] at hd; exact hd
        have R := rule (A := A) (e := fun j => NestedKey.beq (ks.getD j .none) (js.getD j .none)) (r := fun j => ordK r z (ks.getD j .none) (js.getD j .none)) p1 p2 (by omega) (fun j g1 g2 => by
          obtain ⟨x, rx, vx⟩ := at1 j g1
          obtain ⟨y, ry, vy⟩ := at2 j g2
          have := depth_at (as := ks) (j := j)
          exact eqAt_key _ _ A.in1 s _ _ (rep_nested I sm _ _ _ rx vx) (rep_nested I sm _ _ _ ry vy) (by show A.units + 1 + _ < _; omega)) (fun j g1 g2 _ => by
          obtain ⟨x, rx, vx⟩ := at1 j g1
          obtain ⟨y, ry, vy⟩ := at2 j g2
          have := depth_at (as := ks) (j := j)
          exact ih _ _ A.in1 _ _ _ _ (by omega) rx vx ry vy (cmpKs_at hc (by rw [← l1]; exact g1) (by rw [← l2]; exact g2)) (by show A.units + 1 + _ + 1 < _; omega))
        rw [l1, l2, lexAt_ks hz] at R
        exact R
      | _ => cases hc
    | _ => cases hc
end
/-- such an operator -/
def gOrdK (r : Int → Int → Bool) (z : Nat → Nat → Bool) : G2 := fun a b Q => ∃ x y : NestedKey, a = nkD x ∧ b = nkD y ∧ cmpK x y = true ∧ x.depth ≤ 8 ∧ Q (.fz (.bl (ordK r z x y)))
theorem vw_rep {M : Md} {F H : Hp} {v : V} {k : NestedKey} (h : Vw M F H v (nkD k)) : Rep M F v (nkD k) := by
  cases k with
  | none => cases h; exact .non
  | num i => cases h; exact .int i
  | text x => cases h; exact .str x
  | tup ks =>
    rw [nkD] at h ⊢
    obtain ⟨a, xs, rfl, h1, h2⟩ := h
    exact .tup h1 h2
theorem vr_ordK {X : Cx} {op : CmpOp} {r : Int → Int → Bool} {z : Nat → Nat → Bool} (hz : ZOk z)
    (rule : ∀ {A : Around} {s : Shared} {l b : Addr} {items items2 : Array Value} {e r : Nat → Bool}, s.heap.IsTuple l items → s.heap.IsTuple b items2 → A.units < cLine →
      (∀ j (h1 : j < items.size) (h2 : j < items2.size), SeqAt.EqAt A.in1 s items[j] items2[j] (e j)) → (∀ j (h1 : j < items.size) (h2 : j < items2.size), e j = false → Ob.RcOp op A.in1 s items[j] items2[j] (r j)) →
      Ob.RcOp op A s (.ref l) (.ref b) (Ob.lexAt e r (z items.size items2.size) 0 (min items.size items2.size)))
    (base : ∀ (A : Around) (s : Shared) (a b : Int) (t u : Tok), Ob.RcOp op A s (.int a t) (.int b u) (r a b))
    (hr : ∀ (a b : Value) (s : Shared) (Q E : Value → Shared → Prop), wpAny (model X.prog X.w) X.A (richCompare op a b) Q E s → wpAny (model X.prog X.w) X.A (compareOp op a b) Q E s) (hu : X.A.units + 9 < cLine) : VR2 X (compareOp op) (gOrdK r z) :=
  ⟨fun pins s σ H x y v u Q I rx ry ⟨F, da, db, sm, vx, vy, kx, ky, e1, e2, hc, hd, q⟩ => by
    subst e1 e2
    exact hr _ _ _ _ _ (rc_key I sm hz rule (fun A => base A s) 8 kx ky X.A x y v u hd (vw_rep vx) rx (vw_rep vy) ry hc (by omega) X.prog X.w X.xe (EP X pins σ Q) ⟨.bl _, H, I, rfl, q.here sm (.bl _)⟩),
   ⟨fun h ⟨x, y, a, b, c, d, q⟩ => ⟨x, y, a, b, c, d, h _ q⟩⟩⟩
def gGeK : G2 := gOrdK (fun i j => decide (j ≤ i)) (fun a b => decide (a ≥ b))
def gLtK : G2 := gOrdK (fun i j => decide (i < j)) (fun a b => decide (a < b))
theorem vr_geK {X : Cx} (hu : X.A.units + 9 < cLine) : VR2 X (compareOp .GtE) gGeK :=
  vr_ordK ⟨fun a b => by simp, fun n => by simp, fun n => by simp⟩ (fun h1 h2 h3 h4 h5 => Ob.RcOp.tuples_ge h1 h2 h3 h4 h5) (fun _ _ => Ob.RcOp.ge_int) (fun _ _ _ _ _ h => h) hu
theorem vr_ltK {X : Cx} (hu : X.A.units + 9 < cLine) : VR2 X (compareOp .Lt) gLtK :=
  vr_ordK ⟨fun a b => by simp, fun n => by simp, fun n => by simp⟩ (fun h1 h2 h3 h4 h5 => Ob.RcOp.tuples_lt h1 h2 h3 h4 h5) (fun _ _ => Ob.RcOp.lt_int) (fun _ _ _ _ _ h => h) hu
end LV


set_option Elab.async false
set_option linter.all false
set_option maxRecDepth 100000
set_option maxHeartbeats 1000000
namespace LV
open PySem PySem.Spec L2
section
variable {X : Cx} {c : Ct} {W : WX} {st : Stmt} {e : Expr}
/-- min of a list of ints -/
def gMinL : GL := fun ds Q => ∃ (ns : List Int) (m : Int), ds = [.lst (ns.map D.int)] ∧ m ∈ ns ∧ (∀ y ∈ ns, m ≤ y) ∧ Q (.fz (.int m))
theorem vl_minL (hc : X.calm = true) : VRL X (.builtin "min") gMinL :=
  .of (cr_min hc) ⟨fun h ⟨i, m, e, a, b, q⟩ => ⟨i, m, e, a, b, h _ q⟩⟩ fun F ds vs H Qv sm vl ⟨bs, m, e, hm, hx, q⟩ => by
    subst e
    obtain ⟨v, rfl, a, xs, rfl, h1, h2⟩ := vl.one
    rw [RepL.ints h2] at h1
    refine ⟨a, bs, rfl, .inl (.inl h1), List.length_pos_of_mem hm, fun m' h h' => ?_⟩
    have : m' = m := Int.le_antisymm (h' _ hm) (hx _ h)
    subst this
    exact q.here sm (.int _)
/-- a statement that is never reached -/
def wNever : SW := fun _ _ => False
theorem ss_never : SS X c W st wNever := ⟨⟨fun pins s σ H D I ⟨F, env, R, q⟩ => q.elim⟩, ⟨fun _ q => q.elim⟩⟩
end
end LV


set_option Elab.async false
set_option linter.all false
set_option maxRecDepth 100000
set_option maxHeartbeats 1000000
namespace LV
open PySem PySem.Spec PySem.W L2
/-! ### the facts of a law's top, from what k_is answers -/
section
variable {P : Program} {w : World} {K : PySem.W.Frag} {mg : Str → Option Value} {base h : Heap}
theorem dat_mk {x : Str} {st : Stmt} {ps : List Str} {f : Addr} {oc : Value} {od an : Option Addr} {osl : Array (Option Value)} {kV doc pm cdv ct : Value} (X : K.In h) (G : h.Ns mainGlobals mg) (a : PySem.W.nsIn K mainGlobals x = some (some (.ref f)))
    (l : K.lookup f = some ⟨oc, od, .func (PySem.W.fnOf x x (defArgs st) (defBody st) (defScope st) .none kV doc pm an cdv ct), osl⟩) (c : PySem.W.codeIn K cdv x = true) (k : PySem.W.keepIn K (.ref f) = true)
    (b : ∀ (kV doc pm : Value) (an : Option Addr) (cdv ct : Value) (us : List Value), us.length = ps.length → bindArgs (PySem.W.fnOf x x (defArgs st) (defBody st) (defScope st) .none kV doc pm an cdv ct) ⟨us, []⟩ = pure (ps.zip us)) :
    ∃ f fd, DefAt K mg x st ps f fd := ⟨f, _, fun_mk l c k, PySem.W.mg_of X G a, (fun_mk l c k).binds b⟩
theorem dat_mkV {x : Str} {st : Stmt} {ps : List Str} {pv : Str} {f : Addr} {oc : Value} {od an : Option Addr} {osl : Array (Option Value)} {kV doc pm cdv ct : Value} (X : K.In h) (G : h.Ns mainGlobals mg) (a : PySem.W.nsIn K mainGlobals x = some (some (.ref f)))
    (l : K.lookup f = some ⟨oc, od, .func (PySem.W.fnOf x x (defArgs st) (defBody st) (defScope st) .none kV doc pm an cdv ct), osl⟩) (c : PySem.W.codeIn K cdv x = true) (k : PySem.W.keepIn K (.ref f) = true)
    (b : ∀ (kV doc pm : Value) (an : Option Addr) (cdv ct : Value) (us rest : List Value), us.length = ps.length → bindArgs (PySem.W.fnOf x x (defArgs st) (defBody st) (defScope st) .none kV doc pm an cdv ct) ⟨us ++ rest, []⟩ = (newTuple rest >>= fun t => pure (ps.zip us ++ [(pv, t)]))) :
    ∃ f fd, DefAtV K mg x st ps pv f fd := ⟨f, _, fun_mk l c k, PySem.W.mg_of X G a, b _ _ _ _ _ _⟩
theorem exm_mk {A B : Str} {C C' : Addr} {b : Bool} (X : K.In h) (G : h.Ns mainGlobals mg) (a : PySem.W.nsIn K mainGlobals A = some (some (.ref C))) (a' : PySem.W.nsIn K mainGlobals B = some (some (.ref C')))
    (eC : subIn K (.ref C') (.type "BaseException") = some true) (iC : isClsIn K C' = true) (tC : typeIn K (.ref C') = some (.type "type")) (sC : subIn K (.ref C) (.ref C') = some b) : Exm K mg A B b := fun D D' hA hB => by
  cases hA.symm.trans (PySem.W.mg_of X G a)
  cases hB.symm.trans (PySem.W.mg_of X G a')
  unfold exmOne kitCls
  unfold isClsIn at iC
  rw [eC, if_pos (by decide)]
  show (if ((clsIn K C').isSome && typeIn K (.ref C') == some (.type "type")) = true then subIn K (.ref C) (.ref C') else none) = some b
  rw [iC, tC, if_pos (by decide +kernel)]
  exact sC
theorem free_mk {ns : List (Str × NameKind)} (h : (ns.all fun p => p.2 != .free || p.1 == "__class__") = true) : ∀ y : Str, ns.lookup y = some .free → y = "__class__" := fun y e => by
  have := List.all_eq_true.mp h _ (PySem.mem_of_lookup e)
  rcases (Bool.or_eq_true_iff).mp this with z | z
  · exact nomatch (show false = true from z)
  · exact eq_of_beq z
def clsInit : Stmt → Stmt
  | .ClassDef _ _ _ (b :: _) _ _ _ _ _ _ _ => b
  | s => s
theorem x_mk {Cn f nm q qual file : Str} {st : Stmt} {C N fI cda cc : Addr} {bs bm : List Value} {sn sub ab col dd k0 k1 k2 k3 k5 : _} {oc kV doc pm ct ccl cl : Value} {od an cdd cld : Option Addr} {osl ccs csl : Array (Option Value)} {vs : Array Value} {tf : Tok} {p msg : Str} {j : Nat} {pl : Env → Sem Bool} {p0 p1 p2 p3 p4 p5 p6 p7 p8 p9 : Pos} {ar : Arg}
    (X : K.In h) (G : h.Ns mainGlobals mg) (aC : nsIn K mainGlobals Cn = some (some (.ref C))) (xL : K.lookup C = some (excClassObj nm q C N bs bm true sn sub ab col dd k0 k1 k2 k3 k5 "ValueError.__new__"))
    (ini : findIn K (.ref C) "__init__" = some (some (.ref fI)))
    (lk : K.lookup fI = some ⟨oc, od, .func (ksFn "__init__" qual (defArgs st) (defBody st) (defScope st) .none kV doc pm an (.ref cda) ct cc), osl⟩) (lcd : K.lookup cda = some ⟨ccl, cdd, .fields vs, ccs⟩) (lcc : K.lookup cc = some ⟨cl, cld, .cell (some (.ref C)), csl⟩)
    (cd : codeIn K (.ref cda) qual = true) (sa : findIn K (.ref C) "__setattr__" = some (some (.builtin "object.__setattr__"))) (eC : subIn K (.ref C) (.type "BaseException") = some true) (tC : typeIn K (.ref C) = some (.type "type")) (kC : keepIn K (.ref C) = true)
    (ga : findIn K (.ref C) "__getattribute__" = some (some (.builtin "BaseException.__getattribute__"))) (gg : findIn K (.ref C) "__getattr__" = some none) (hd : hasDictIn K C = true) (nof : findIn K (.ref C) f = some none) (tI : typeIn K (.ref fI) = some (.type "function"))
    (mro : mroIn K C (.ref C) = some true) (nosup : nsIn K mainGlobals "super" = some none) (sini : ks_superIn K C C "__init__" = some (some (.builtin "ValueError.__init__"))) (val : subIn K (.ref C) (.type "ValueError") = some true) (stat : nsIn K cStatics "thirdparty.any" = some none)
    (rf : PySem.HandSPX.refsVE bm = true) (v2 : vs[2]? = some (.str file tf)) (hfile : ((P.main.file : Str) == file) = true) (top : (P.main.scope.names.lookup ("super" : Str)).isSome = false)
    (S : LVX.SupScope ["self", p] ["self", p] (defScope st)) (hp : ((defArgs st).posonlyargs ++ (defArgs st).args).head? = some ar) (hself : ar.arg = "self")
    (hbody : defBody st = [.Expr (.Call (.Attribute (.Call (.Name "super" p0) [] [] p1) "__init__" p2) [.Constant (.str msg) j p3] [] p4) p5, .Assign [.Attribute (.Name "self" p6) f p7] (.Name p p8) p9])
    (hpd : (p == ("__debug__" : Str)) = false) (hpc : (p == ("__classdict__" : Str)) = false) (hev : SupEv p0 p1 p2 p4 (.Constant (.str msg) j p3) pl) (hsw : SupSw p0 p1 p2 p4 p5 (.Constant (.str msg) j p3))
    (b : ∀ us : List Value, us.length = (["self", p] : List Str).length → bindArgs (ksFn "__init__" qual (defArgs st) (defBody st) (defScope st) .none kV doc pm an (.ref cda) ct cc) ⟨us, []⟩ = pure ((["self", p] : List Str).zip us)) : XCls P w K mg base Cn f :=
  have T : OexC K C := ⟨⟨nm, q, N, bs, bm, sn, sub, ab, col, dd, k0, k1, k2, k3, k5, xL, rf⟩, sa, eC, tC, kC⟩
  ⟨C, fI, _, p, PySem.W.mg_of X G aC, ⟨T, ⟨ga, gg, eC, hd⟩, nof⟩, ini, tI,
    exc1 (p10 := p0) ⟨T, ⟨oc, od, kV, doc, pm, an, cda, cc, ct, osl, ccl, cdd, vs, ccs, file, tf, cl, cld, csl, rfl, lk, cd, lcd, v2, hfile, lcc⟩, mro, nosup, sini, val, stat, top⟩ S hp hself hbody nof hpd hpc hev hsw, .all b⟩
theorem fnG_mk {x : Str} {st : Stmt} {f : Addr} {fd : FuncData} {N ps : List Str} {k : Nat} {S : FSpec} {b : SW} (pn : List Nat) (D : DefAt K mg x st ps f fd) (Sc : FnScope N ps (defScope st)) (kp : Keeps S pn ps.length N.length b)
    (hbody : ∀ (cdv : Value) (A : Around) (outer : List Env) (s : Shared) (H : Hp) (E : XK), RoomG k (A.deeper (PyProof.Rows.envOfC x (defScope st) s.heap.objs.size f cdv)) →
      ∀ (σ₀ : L2.St) (h₀ : Hp) (xc : Addr → Value → Option Addr → Prop), SSs (cxOf (L2.CX P w) P w K mg base N x (defScope st) f cdv A outer s H E) ⟨pn, σ₀, h₀, xc⟩ (fun cls d _ H => E cls d H) (defBody st) b) :
    FnG P w K mg base (k + 1) f fd ps (toSp ⟨K, mg, w⟩ S) :=
  fn_lvG pn D.fn Sc kp fun cdv A outer s H E hr c hc => match c, hc with
    | ⟨_, σ₀, h₀, xc⟩, rfl => hbody cdv A outer s H E hr σ₀ h₀ xc
/-- the law's own def, at the law's call -/
theorem law_at {st : Stmt} {x : Str} {k n : Nat} {fa : Addr} (hfa : mg "law" = some (.ref fa)) (D : ∃ f fd, DefAt K mg "law" st [x] f fd)
    (b : ∀ (kV doc pm : Value) (an : Option Addr) (cdv ct : Value) (us : List Value), us.length = [x].length → bindArgs (PySem.W.fnOf "law" "law" (defArgs st) (defBody st) (defScope st) .none kV doc pm an cdv ct) ⟨us, []⟩ = pure ([x].zip us))
    (F : ∀ base : Heap, ∀ f fd, DefAt K mg "law" st [x] f fd → FnG P w K mg base k f fd [x] (toSp ⟨K, mg, w⟩ (SLaw n))) :
    ∃ fd : FuncData, (∀ (s : Shared) (u : Value), BindsTo s fd ⟨[u], []⟩ [(x, u)]) ∧ ∀ base : Heap, K.In base → base.Ns mainGlobals mg → FnG P w K mg base k fa fd [x] (toSp ⟨K, mg, w⟩ (SLaw n)) := by
  obtain ⟨f, fd, D⟩ := D
  have e := hfa.symm.trans D.at_
  cases e
  refine ⟨fd, fun s u => ?_, fun base _ _ => F base _ _ D⟩
  obtain ⟨oc, od, kV, doc, pm, an, cdv, ct, osl, rfl, lk, hcd⟩ := D.fn.ex
  exact .of_eq (b _ _ _ _ _ _ [u] rfl)
end
end LV


set_option Elab.async false
set_option linter.all false
set_option maxRecDepth 100000
set_option maxHeartbeats 1000000
namespace LV
open PySem PySem.Spec L2
/-! ### what the operators say at plain operands -/
section
variable {i j : Int} {Q : Rv → Prop} {p : Int → Int → Bool} {f : List Int → List Int → Bool} {ns ms : List Int} {b : Bool} {s : Str}
theorem map_int_inj : ∀ {ns ms : List Int}, ns.map D.int = ms.map D.int → ns = ms
  | [], [], _ => rfl
  | n :: ns, m :: ms, h => by
    rw [List.map_cons, List.map_cons] at h
    injection h with h1 h2
    injection h1 with h1
    rw [h1, map_int_inj h2]
  | [], _ :: _, h => nomatch h
  | _ :: _, [], h => nomatch h
theorem gOrd_ii : gOrd p f (.int i) (.int j) Q = Q (.fz (.bl (p i j))) := propext ⟨fun h => by
  rcases h with ⟨i', j', e1, e2, q⟩ | ⟨_, _, e1, _⟩
  · injection e1 with e1; injection e2 with e2; subst e1 e2; exact q
  · (cases e1), fun q => .inl ⟨i, j, rfl, rfl, q⟩⟩
theorem gOrd_tt : gOrd p f (.tup (ns.map D.int)) (.tup (ms.map D.int)) Q = Q (.fz (.bl (f ns ms))) := propext ⟨fun h => by
  rcases h with ⟨i', j', e1, e2, q⟩ | ⟨a, b, e1, e2, q⟩
  · cases e1
  · injection e1 with e1; injection e2 with e2
    rw [map_int_inj e1, map_int_inj e2]; exact q, fun q => .inr ⟨ns, ms, rfl, rfl, q⟩⟩
theorem gInt_ii {C : Int → Int → Prop} {g : Int → Int → Int} : gInt C g (.int i) (.int j) Q = (C i j ∧ Q (.fz (.int (g i j)))) := propext ⟨fun ⟨i', j', e1, e2, c, q⟩ => by
  injection e1 with e1; injection e2 with e2; subst e1 e2; exact ⟨c, q⟩, fun ⟨c, q⟩ => ⟨i, j, rfl, rfl, c, q⟩⟩
theorem gInt1_i : gInt1 [.int i] Q = Q (.fz (.int i)) := propext ⟨fun h => by
  rcases h with ⟨i', e, q⟩ | ⟨k, e, q⟩
  · injection e with e _; injection e with e; subst e; exact q
  · injection e with e _; (cases e), fun q => .inl ⟨i, rfl, q⟩⟩
theorem gAbs_i : gAbs [.int i] Q = Q (.fz (.int (if i < 0 then -i else i))) := propext ⟨fun ⟨i', e, q⟩ => by
  injection e with e _; injection e with e; subst e; exact q, fun q => ⟨i, rfl, q⟩⟩
theorem gMax2_ii : gMax2 [.int i, .int j] Q = Q (.fz (.int (if j > i then j else i))) := propext ⟨fun ⟨i', j', e, q⟩ => by
  injection e with e1 e; injection e with e2 _; injection e1 with e1; injection e2 with e2; subst e1 e2; exact q, fun q => ⟨i, j, rfl, q⟩⟩
theorem gMin2_ii : gMin2 [.int i, .int j] Q = Q (.fz (.int (if j < i then j else i))) := propext ⟨fun ⟨i', j', e, q⟩ => by
  injection e with e1 e; injection e with e2 _; injection e1 with e1; injection e2 with e2; subst e1 e2; exact q, fun q => ⟨i, j, rfl, q⟩⟩
theorem gLt_ii : gLt (.int i) (.int j) Q = Q (.fz (.bl (decide (i < j)))) := gOrd_ii
theorem gLe_ii : gLe (.int i) (.int j) Q = Q (.fz (.bl (decide (i ≤ j)))) := gOrd_ii
theorem gGt_ii : gGt (.int i) (.int j) Q = Q (.fz (.bl (decide (j < i)))) := gOrd_ii
theorem gGe_ii : gGe (.int i) (.int j) Q = Q (.fz (.bl (decide (j ≤ i)))) := gOrd_ii
theorem gLt_tt : gLt (rowD ns) (rowD ms) Q = Q (.fz (.bl (ltI ns ms))) := gOrd_tt
theorem gLe_tt : gLe (rowD ns) (rowD ms) Q = Q (.fz (.bl (leI ns ms))) := gOrd_tt
theorem gGt_tt : gGt (rowD ns) (rowD ms) Q = Q (.fz (.bl (ltI ms ns))) := gOrd_tt
theorem gGe_tt : gGe (rowD ns) (rowD ms) Q = Q (.fz (.bl (leI ms ns))) := gOrd_tt
theorem gSub_ii : gSub (.int i) (.int j) Q = Q (.fz (.int (i - j))) := by unfold gSub; rw [gInt_ii]; exact propext ⟨fun h => h.2, fun h => ⟨True.intro, h⟩⟩
theorem gMod_ii : gMod (.int i) (.int j) Q = (j ≠ 0 ∧ Q (.fz (.int (i.fmod j)))) := gInt_ii
theorem gDiv_ii : gDiv (.int i) (.int j) Q = (CDvA i j ∧ Q (.fz (.int (i.fdiv j)))) := gInt_ii
theorem gPow_ii : gPow (.int i) (.int j) Q = (CPow i j ∧ Q (.fz (.int (i ^ j.toNat)))) := gInt_ii
theorem gAdd_ii : gAdd (.int i) (.int j) Q = Q (.fz (.int (i + j))) := rfl
theorem gAdd_ss {s t : Str} : gAdd (.str s) (.str t) Q = (s.length + t.length ≤ sizeLine ∧ Q (.fz (.str (s ++ t)))) := rfl
theorem gAdd_tt {xs ys : List D} : gAdd (.tup xs) (.tup ys) Q = (xs.length + ys.length ≤ sizeLine ∧ Q (.fz (.tup (xs ++ ys)))) := rfl
theorem gAdd_ll {xs ys : List D} : gAdd (.lst xs) (.lst ys) Q = (xs.length + ys.length ≤ sizeLine ∧ Q (.ow (.lst (xs ++ ys)))) := rfl
theorem gMul_ii : gMul (.int i) (.int j) Q = (CMulX i j ∧ Q (.fz (.int (i * j)))) := rfl
theorem gMul_ti {xs : List D} : gMul (.tup xs) (.int i) Q = (xs ≠ [] ∧ 2 ≤ i ∧ i ≤ 1000 ∧ xs.length ≤ 1000 ∧ Q (.fz (.tup (List.replicate i.toNat xs).flatten))) := rfl
theorem gMul_li {xs : List D} : gMul (.lst xs) (.int i) Q = (-(2 ^ 63) ≤ i ∧ i < 2 ^ 63 ∧ xs.length * i.toNat ≤ sizeLine ∧ Q (.ow (.lst (List.replicate i.toNat xs).flatten))) := rfl
theorem gIx_t {xs : List D} : gIx (.tup xs) (.int i) Q = ∃ d, L2.atI xs i = some d ∧ Q (.fz d) := rfl
theorem gIx_l {xs : List D} : gIx (.lst xs) (.int i) Q = ∃ d, L2.atI xs i = some d ∧ Q (.fz d) := rfl
theorem gIx_s {xs : List Int} : gIx (.scr xs) (.int i) Q = ∃ d, L2.atI xs i = some d ∧ Q (.fz (.int d)) := rfl
theorem gIx_x {z : Str} : gIx (.str z) (.int i) Q = (z.length ≤ sizeLine ∧ ∃ c, L2.atI z.cps.toList i = some c ∧ Q (.fz (.str ⟨#[c]⟩))) := rfl
theorem okE_int : (D.int i).okE = true := rfl
theorem okE_bl : (D.bl b).okE = true := rfl
theorem okE_non : D.non.okE = true := rfl
theorem eqv_ii : eqvD (.int i) (.int j) = (i == j) := rfl
theorem eqv_ss {t : Str} : eqvD (.str s) (.str t) = (s == t) := rfl
end
theorem at_0 {α : Type} {a : α} {l : List α} : L2.atI (a :: l) 0 = some a := by
  unfold L2.atI L2.ixN
  rw [if_pos (Int.le_refl 0), if_pos (by rw [List.length_cons]; omega)]; rfl
theorem at_1 {α : Type} {a b : α} {l : List α} : L2.atI (a :: b :: l) 1 = some b := by
  unfold L2.atI L2.ixN
  rw [if_pos (by decide), if_pos (by rw [List.length_cons, List.length_cons]; omega)]; rfl
theorem at_2 {α : Type} {a b c : α} {l : List α} : L2.atI (a :: b :: c :: l) 2 = some c := by
  unfold L2.atI L2.ixN
  rw [if_pos (by decide), if_pos (by rw [List.length_cons, List.length_cons, List.length_cons]; omega)]; rfl
theorem at_3 {α : Type} {a b c d : α} {l : List α} : L2.atI (a :: b :: c :: d :: l) 3 = some d := by
  unfold L2.atI L2.ixN
  rw [if_pos (by decide), if_pos (by rw [List.length_cons, List.length_cons, List.length_cons, List.length_cons]; omega)]; rfl
theorem ix4_0 : ixN 4 0 = some 0 := rfl
theorem ix4_1 : ixN 4 1 = some 1 := rfl
theorem ix4_2 : ixN 4 2 = some 2 := rfl
theorem ix4_3 : ixN 4 3 = some 3 := rfl
/-- a place inside -/
theorem at_in {α : Type} {l : List α} {i : Int} (h0 : 0 ≤ i) (h : i < l.length) : ∃ x, L2.atI l i = some x ∧ x ∈ l := by
  unfold L2.atI L2.ixN
  rw [if_pos h0, if_pos h]
  exact ⟨l[i.toNat]'(by omega), List.getElem?_eq_getElem (by omega), List.getElem_mem _⟩
theorem iteB {b : Bool} {X Y : Prop} {inst : Decidable (b = true)} (h1 : b = true → X) (h2 : b = false → Y) : @ite Prop (b = true) inst X Y := by
  cases b with
  | true => rw [if_pos rfl]; exact h1 rfl
  | false => rw [if_neg Bool.false_ne_true]; exact h2 rfl
theorem fit1 {pn : List Nat} {d : D} : ArgsFit pn 1 [.fz d] := ⟨rfl, fun j o h => by rcases j with _ | j <;> simp at h, fun j a C ks vs h => by rcases j with _ | j <;> simp at h⟩
theorem fit2 {pn : List Nat} {d d' : D} : ArgsFit pn 2 [.fz d, .fz d'] := ⟨rfl, fun j o h => by rcases j with _ | _ | j <;> simp at h, fun j a C ks vs h => by rcases j with _ | _ | j <;> simp at h⟩
theorem fit3 {pn : List Nat} {d d' d'' : D} : ArgsFit pn 3 [.fz d, .fz d', .fz d''] := ⟨rfl, fun j o h => by rcases j with _ | _ | _ | j <;> simp at h, fun j a C ks vs h => by rcases j with _ | _ | _ | j <;> simp at h⟩
theorem fitO1 {o : O} : ArgsFit [0] 1 [.ow o] := ⟨rfl, fun j o h => by rcases j with _ | j <;> simp at h ⊢, fun j a C ks vs h => by rcases j with _ | j <;> simp at h⟩
theorem fitO2 {o : O} {d : D} : ArgsFit [0] 2 [.ow o, .fz d] := ⟨rfl, fun j o h => by rcases j with _ | _ | j <;> simp at h ⊢, fun j a C ks vs h => by rcases j with _ | _ | j <;> simp at h⟩
theorem fitO3 {o : O} {d d' : D} : ArgsFit [0] 3 [.ow o, .fz d, .fz d'] := ⟨rfl, fun j o h => by rcases j with _ | _ | _ | j <;> simp at h ⊢, fun j a C ks vs h => by rcases j with _ | _ | _ | j <;> simp at h⟩
theorem zipD_ints : ∀ (xs ys : List Int), zipD (xs.map D.int) (ys.map D.int) = (xs.zip ys).map fun p => D.tup [.int p.1, .int p.2]
  | [], _ => by simp [zipD]
  | _ :: _, [] => by simp [zipD]
  | x :: xs, y :: ys => by simp [zipD, zipD_ints xs ys]
theorem plain_ty {d : D} (h : d.plain = true) : ∃ t, d.ty = some t := by cases d <;> first | exact ⟨_, rfl⟩ | cases h
end LV
namespace LV
open PySem PySem.Spec L2
/-- one statement at a time: what follows it is a name -/
theorem seq_k {s1 s2 : SW} {K : Ks} {env : En} (h : ∀ K1 : Ks, (∀ e, s2 K e → K1.nx e) → K1.rt = K.rt → K1.bk = K.bk → K1.ct = K.ct → K1.ex = K.ex → s1 K1 env) : wSeq s1 s2 K env :=
  h { K with nx := fun e => s2 K e } (fun _ q => q) rfl rfl rfl rfl
end LV

open PySem PySem.Spec L2 LV
local macro_rules | `(tactic| walk_at "lv") => `(tactic| simp only [wSeq, wSkip, wRet, wRetN, wIf, wSet, wSetIx, wExp, wApp, wFor, wBrk, wCnt, wRev, wAnd, wOr, wNot, wIte, wtNot, wtAnd, wtOr, wB, wTru, wVar, wC, wOp2, wFz, wIsi, wTup, wLst, wNil, wCons, wBlt, wFrz, wNeg, wCall, wSl, wNoP, wPt, wChain, wIt, itR, itemsD, wRng1, wRng2, wZip, wRaise1,
  retR, setR, Rv.frz, look, lookL, frz1, frzL, valOf, valL, slotsOf, putL, startE, O.d, bindT, bindS, loopW, List.map_cons, List.map_nil, List.length_cons, List.length_nil, List.replicate, List.cons_append, List.nil_append, List.getElem?_cons_zero, List.getElem?_cons_succ, List.set_cons_zero, List.set_cons_succ, List.set_nil, List.append_nil,
  gLt_ii, gLe_ii, gGt_ii, gGe_ii, gLt_tt, gLe_tt, gGt_tt, gGe_tt, gAdd_ii, gAdd_ss, gAdd_tt, gAdd_ll, gSub_ii, gMod_ii, gDiv_ii, gPow_ii, gMulT_ii, gMulT_li, gIx_t, gIx_l, gIx_s, gIx_x, gLen, gInt1_i, gAbs_i, gMax2_ii, gMin2_ii, gList, gTuple, gEq, gNe, gIn, gNotIn, gIsN, gIsNotN, okE_int, okE_bl, okE_non, eqv_ii, eqv_ss, truD, isN, yesK, gSl, at_0, at_1, at_2, at_3, ix4_0, ix4_1, ix4_2, ix4_3,
  Nat.zero_add, Nat.sub_self, Nat.reduceAdd, Nat.reduceSub, Nat.add_one_sub_one, Option.some.injEq, Prod.mk.injEq, D.int.injEq, D.bl.injEq, D.tup.injEq, D.lst.injEq, Rv.fz.injEq, Rv.sl.injEq, exists_eq_left, exists_eq_left', exists_and_left, and_assoc, exists_eq, exists_eq', Option.getD_some, Option.getD_some, true_and, and_true, implies_true, if_true, if_false, Bool.false_eq_true, reduceCtorEq, ite_true, ite_false, ne_eq, not_false_eq_true, not_true_eq_false,
  KsFn, finA, List.mem_nil_iff, List.not_mem_nil, List.mem_cons, backOk, List.cons.injEq, Val.fz.injEq, Val.ow.injEq, O.lst.injEq, or_false, or_true, false_or, exists_false, false_and, and_false, List.nodup_nil, List.nodup_cons, Bool.not_true, Bool.not_false])
local macro_rules | `(tactic| simp_all! only [$ts,*]) => `(tactic| simp only [$ts,*, wSeq, wSkip, wRet, wRetN, wIf, wSet, wSetIx, wExp, wApp, wFor, wBrk, wCnt, wRev, wAnd, wOr, wNot, wIte, wtNot, wtAnd, wtOr, wB, wTru, wVar, wC, wOp2, wFz, wIsi, wTup, wLst, wNil, wCons, wBlt, wFrz, wNeg, wCall, wSl, wNoP, wPt, wChain, wIt, itR, itemsD, wRng1, wRng2, wZip, wRaise1,
  retR, setR, Rv.frz, look, lookL, frz1, frzL, valOf, valL, slotsOf, putL, startE, O.d, bindT, bindS, loopW, List.map_cons, List.map_nil, List.length_cons, List.length_nil, List.replicate, List.cons_append, List.nil_append, List.getElem?_cons_zero, List.getElem?_cons_succ, List.set_cons_zero, List.set_cons_succ, List.set_nil, List.append_nil,
  gLt_ii, gLe_ii, gGt_ii, gGe_ii, gLt_tt, gLe_tt, gGt_tt, gGe_tt, gAdd_ii, gAdd_ss, gAdd_tt, gAdd_ll, gSub_ii, gMod_ii, gDiv_ii, gPow_ii, gMulT_ii, gMulT_li, gIx_t, gIx_l, gIx_s, gIx_x, gLen, gInt1_i, gAbs_i, gMax2_ii, gMin2_ii, gList, gTuple, gEq, gNe, gIn, gNotIn, gIsN, gIsNotN, okE_int, okE_bl, okE_non, eqv_ii, eqv_ss, truD, isN, yesK, gSl, at_0, at_1, at_2, at_3, ix4_0, ix4_1, ix4_2, ix4_3,
  Nat.zero_add, Nat.sub_self, Nat.reduceAdd, Nat.reduceSub, Nat.add_one_sub_one, Option.some.injEq, Prod.mk.injEq, D.int.injEq, D.bl.injEq, D.tup.injEq, D.lst.injEq, Rv.fz.injEq, Rv.sl.injEq, exists_eq_left, exists_eq_left', exists_and_left, and_assoc, exists_eq, exists_eq', Option.getD_some, Option.getD_some, true_and, and_true, implies_true, if_true, if_false, Bool.false_eq_true, reduceCtorEq, ite_true, ite_false, ne_eq, not_false_eq_true, not_true_eq_false,
  KsFn, finA, List.mem_nil_iff, List.not_mem_nil, List.mem_cons, backOk, List.cons.injEq, Val.fz.injEq, Val.ow.injEq, O.lst.injEq, or_false, or_true, false_or, exists_false, false_and, and_false, List.nodup_nil, List.nodup_cons, Bool.not_true, Bool.not_false])

set_option Elab.async false
set_option linter.all false
set_option maxRecDepth 100000
set_option maxHeartbeats 400000
namespace LV
open PySem PySem.Spec L2
/-- a comprehension whose parts change nothing -/
theorem cw_fm {tg : Tg} {u : TW} {w : EW} {vs : List Nat} {keep : KeepE} {Q : List D → En → Prop} {env : En} (p : D → Bool) (f : D → D) (hk : keep env) : ∀ (ds acc : List D),
    (∀ d ∈ ds, ∃ e1, bindT tg d env = some e1 ∧ wipeE e1 vs = env ∧ (∀ G : Bool → En → Prop, G (p d) e1 → u e1 G X0) ∧ (p d = true → ∀ G : Rv → En → Prop, G (.fz (f d)) e1 → wFz w e1 G X0)) →
    acc.length + ds.length < sizeLine → Q (acc ++ (ds.filter p).map f) env → compW tg u w vs keep Q ds acc env
  | [], acc, _, _, q => ⟨hk, by simpa using q⟩
  | d :: ds, acc, h, hl, q => by
    obtain ⟨e1, h1, h2, h3, h4⟩ := h d List.mem_cons_self
    rw [List.length_cons] at hl
    refine ⟨hk, e1, h1, h3 _ ?_⟩
    cases hp : p d with
    | true =>
      rw [if_pos rfl]
      refine h4 hp _ ⟨f d, e1, rfl, by omega, ?_⟩
      rw [h2]
      refine cw_fm p f hk ds _ (fun x hx => h x (List.mem_cons_of_mem _ hx)) (by rw [List.length_append, List.length_singleton]; omega) ?_
      rw [List.filter_cons_of_pos hp, List.map_cons] at q
      rw [List.append_assoc]; exact q
    | false =>
      rw [if_neg Bool.false_ne_true]
      show compW tg u w vs keep Q ds acc (wipeE e1 vs)
      rw [h2]
      refine cw_fm p f hk ds _ (fun x hx => h x (List.mem_cons_of_mem _ hx)) (by omega) ?_
      rw [List.filter_cons_of_neg (by rw [hp]; exact Bool.false_ne_true)] at q
      exact q
theorem cw_map {tg : Tg} {w : EW} {vs : List Nat} {keep : KeepE} {Q : List D → En → Prop} {env : En} (f : D → D) (hk : keep env) (ds : List D)
    (h : ∀ d ∈ ds, ∃ e1, bindT tg d env = some e1 ∧ wipeE e1 vs = env ∧ ∀ G : Rv → En → Prop, G (.fz (f d)) e1 → wFz w e1 G X0) (hl : ds.length < sizeLine) (q : Q (ds.map f) env) : compW tg uYes w vs keep Q ds [] env := by
  refine cw_fm (fun _ => true) f hk ds [] (fun d hd => ?_) (by rw [List.length_nil]; omega) ?_
  · obtain ⟨e1, h1, h2, h3⟩ := h d hd
    exact ⟨e1, h1, h2, fun G g => g, fun _ G g => h3 G g⟩
  · rw [List.nil_append, List.filter_eq_self.mpr (fun _ _ => rfl)]; exact q
theorem rng_eq : ∀ (n : Nat) (lo : Int), rngD lo n = (List.range n).map fun k : Nat => D.int (lo + k)
  | 0, lo => rfl
  | n + 1, lo => by
    rw [rngD, rng_eq n, List.range_succ_eq_map, List.map_cons, List.map_map]
    congr 1
    · simp
    · apply List.map_congr_left
      intro k _
      simp only [Function.comp]
      congr 1
      omega
theorem at_nat {α : Type} {l : List α} {k : Nat} {x : α} (h : l[k]? = some x) : L2.atI l (k : Int) = some x := by
  have hk := (List.getElem?_eq_some_iff.mp h).1
  unfold L2.atI L2.ixN
  rw [if_pos (by omega), if_pos (by omega)]
  exact h
end LV


set_option Elab.async false
set_option linter.all false
set_option maxRecDepth 100000
set_option maxHeartbeats 400000
namespace LV
open PySem PySem.Spec L2
/-! ### rows of ints under == and in -/
theorem plainL_ints : ∀ r : List Int, plainL (r.map D.int) = true
  | [] => rfl
  | x :: r => by show (true && plainL (r.map D.int)) = true; rw [plainL_ints r]; rfl
theorem plainL_rows : ∀ rows : List (List Int), plainL (rows.map rowD) = true
  | [] => rfl
  | r :: rows => by show (plainL (r.map D.int) && plainL (rows.map rowD)) = true; rw [plainL_ints, plainL_rows rows]; rfl
theorem lay_ints : ∀ r : List Int, PyData.canLayAll0 (pdL (r.map D.int)) = true
  | [] => rfl
  | x :: r => by show (true && PyData.canLayAll0 (pdL (r.map D.int))) = true; rw [lay_ints r]; rfl
theorem lay_rows : ∀ rows : List (List Int), PyData.canLayAll0 (pdL (rows.map rowD)) = true
  | [] => rfl
  | r :: rows => by show (PyData.canLayAll0 (pdL (r.map D.int)) && PyData.canLayAll0 (pdL (rows.map rowD))) = true; rw [lay_ints, lay_rows rows]; rfl
theorem deep_ints : ∀ r : List Int, PyData.depthAll (pdL (r.map D.int)) = 0
  | [] => rfl
  | x :: r => by show max 0 (PyData.depthAll (pdL (r.map D.int))) = 0; rw [deep_ints r]; rfl
theorem deep_rows : ∀ rows : List (List Int), PyData.depthAll (pdL (rows.map rowD)) ≤ 1
  | [] => Nat.zero_le _
  | r :: rows => by
    show max (PyData.depthAll (pdL (r.map D.int)) + 1) (PyData.depthAll (pdL (rows.map rowD))) ≤ 1
    rw [deep_ints]
    exact Nat.max_le.mpr ⟨Nat.le_refl _, deep_rows rows⟩
theorem okE_row (r : List Int) : (rowD r).okE = true := by
  show (plainL (r.map D.int) && (PyData.canLayAll0 (pdL (r.map D.int)) && decide (PyData.depthAll (pdL (r.map D.int)) + 1 ≤ 64))) = true
  rw [plainL_ints, lay_ints, deep_ints]; rfl
theorem okE_rows (rows : List (List Int)) : (D.lst (rows.map rowD)).okE = true := by
  show (plainL (rows.map rowD) && (PyData.canLayAll0 (pdL (rows.map rowD)) && decide (PyData.depthAll (pdL (rows.map rowD)) + 1 ≤ 64))) = true
  have := deep_rows rows
  rw [plainL_rows, lay_rows, decide_eq_true (by omega)]; rfl
theorem eqv_ints : ∀ a b : List Int, PyData.eqvAll (pdL (a.map D.int)) (pdL (b.map D.int)) = decide (a = b)
  | [], [] => by simp [pdL, PyData.eqvAll]
  | [], _ :: _ => by simp [pdL, PyData.eqvAll]
  | _ :: _, [] => by simp [pdL, PyData.eqvAll]
  | x :: a, y :: b => by
    show ((x == y) && PyData.eqvAll (pdL (a.map D.int)) (pdL (b.map D.int))) = decide (x :: a = y :: b)
    rw [eqv_ints a b]
    by_cases h : x = y
    · by_cases h' : a = b
      · simp [h, h']
      · simp [h, h']
    · simp [h]
theorem eqv_row (a b : List Int) : eqvD (rowD a) (rowD b) = decide (a = b) := eqv_ints a b
theorem eqv_rowsL : ∀ K L : List (List Int), PyData.eqvAll (pdL (K.map rowD)) (pdL (L.map rowD)) = decide (K = L)
  | [], [] => by simp [pdL, PyData.eqvAll]
  | [], _ :: _ => by simp [pdL, PyData.eqvAll]
  | _ :: _, [] => by simp [pdL, PyData.eqvAll]
  | x :: a, y :: b => by
    show (PyData.eqvAll (pdL (x.map D.int)) (pdL (y.map D.int)) && PyData.eqvAll (pdL (a.map rowD)) (pdL (b.map rowD))) = decide (x :: a = y :: b)
    rw [eqv_ints, eqv_rowsL a b]
    by_cases h : x = y
    · by_cases h' : a = b
      · simp [h, h']
      · simp [h, h']
    · simp [h]
theorem eqv_rows (K L : List (List Int)) : eqvD (.lst (K.map rowD)) (.lst (L.map rowD)) = decide (K = L) := eqv_rowsL K L
theorem any_rows (a : List Int) : ∀ rows : List (List Int), ((pdL (rows.map rowD)).any fun z => PyData.eqv z (rowD a).pd) = decide (a ∈ rows)
  | [] => by simp [pdL]
  | r :: rows => by
    show (PyData.eqvAll (pdL (r.map D.int)) (pdL (a.map D.int)) || (pdL (rows.map rowD)).any fun z => PyData.eqv z (rowD a).pd) = decide (a ∈ r :: rows)
    rw [eqv_ints, any_rows a rows]
    by_cases h : r = a
    · simp [h]
    · have h' : ¬ a = r := fun z => h z.symm
      simp [h, h']
theorem in_rows (a : List Int) (rows : List (List Int)) : inD (rowD a) (.lst (rows.map rowD)) = some (decide (a ∈ rows)) := by
  simp only [inD]
  rw [any_rows]
theorem ltI_le : ∀ {a b : List Int}, ltI a b = true → leI b a = false
  | [], [], h => nomatch h
  | _ :: _, [], h => nomatch h
  | [], _ :: _, _ => rfl
  | x :: a, y :: b, h => by
    have h : (if x = y then ltI a b else decide (x < y)) = true := h
    show (if y = x then leI b a else decide (y ≤ x)) = false
    by_cases e : x = y
    · rw [if_pos e] at h
      rw [if_pos e.symm]; exact ltI_le h
    · rw [if_neg e] at h
      have := of_decide_eq_true h
      rw [if_neg (fun z => e z.symm)]
      exact decide_eq_false (by omega)
end LV


set_option Elab.async false
set_option linter.all false
set_option maxRecDepth 100000
set_option maxHeartbeats 400000
set_option exponentiation.threshold 2000
namespace LV
open PySem PySem.Spec L2
/-! ### what repr can write out -/
mutual
/-- plain, ints of at most forty digits, texts of at most a hundred letters -/
def D.tidy : D → Bool
  | .non => true
  | .bl _ => true
  | .int i => decide (i.natAbs < 10 ^ 40)
  | .str x => x.cps.toList.all (fun c => decide (c < 16 ^ 8)) && decide (x.cps.size ≤ 100)
  | .tup ds => tidyL ds
  | .lst ds => tidyL ds
  | _ => false
def tidyL : List D → Bool
  | [] => true
  | d :: ds => d.tidy && tidyL ds
end
mutual
def D.nodes : D → Nat
  | .tup ds => nodesL ds + 1
  | .lst ds => nodesL ds + 1
  | _ => 1
def nodesL : List D → Nat
  | [] => 0
  | d :: ds => d.nodes + nodesL ds
end
theorem log2_40 {n : Nat} (h : n < 10 ^ 40) : n.log2 < 140 := PySem.Flt.log2_lt_of (by decide) (Nat.lt_of_lt_of_le h (by decide))
mutual
theorem tidy_plain : ∀ d : D, d.tidy = true → d.plain = true
  | .non, _ => rfl
  | .bl _, _ => rfl
  | .int _, _ => rfl
  | .str _, _ => rfl
  | .tup ds, h => tidyL_plain ds h
  | .lst ds, h => tidyL_plain ds h
  | .scr _, h => nomatch h
  | .dct _ _, h => nomatch h
  | .ins _ _ _, h => nomatch h
theorem tidyL_plain : ∀ ds : List D, tidyL ds = true → plainL ds = true
  | [], _ => rfl
  | d :: ds, h => by
    have h' := Bool.and_eq_true_iff.mp h
    show (d.plain && plainL ds) = true
    rw [tidy_plain d h'.1, tidyL_plain ds h'.2]; rfl
end
mutual
theorem tidy_show : ∀ d : D, d.tidy = true → d.pd.showable = true
  | .non, _ => rfl
  | .bl _, _ => rfl
  | .int i, h => by
    have h := log2_40 (of_decide_eq_true h)
    exact decide_eq_true (by omega)
  | .str _, _ => rfl
  | .tup ds, h => tidyL_show ds h
  | .lst ds, h => tidyL_show ds h
  | .scr _, h => nomatch h
  | .dct _ _, h => nomatch h
  | .ins _ _ _, h => nomatch h
theorem tidyL_show : ∀ ds : List D, tidyL ds = true → PyData.showableAll (pdL ds) = true
  | [], _ => rfl
  | d :: ds, h => by
    have h' := Bool.and_eq_true_iff.mp h
    show (d.pd.showable && PyData.showableAll (pdL ds)) = true
    rw [tidy_show d h'.1, tidyL_show ds h'.2]; rfl
end
mutual
theorem tidy_short : ∀ d : D, d.tidy = true → PyData.leavesShort 41 d.pd = true
  | .non, _ => rfl
  | .bl _, _ => rfl
  | .int i, h => decide_eq_true (by
    have h1 := PySem.int_text_length_le10 (a := i) (k := 40) (by decide) (of_decide_eq_true h)
    have e : (PyData.int i).shown.length = (toString i).length := by
      show (Str.ofString (toString i)).length = _
      exact PySem.ofString_length _
    omega)
  | .str x, h => (Bool.and_eq_true_iff.mp h).1
  | .tup ds, h => tidyL_short ds h
  | .lst ds, h => tidyL_short ds h
  | .scr _, h => nomatch h
  | .dct _ _, h => nomatch h
  | .ins _ _ _, h => nomatch h
theorem tidyL_short : ∀ ds : List D, tidyL ds = true → PyData.leavesShortAll 41 (pdL ds) = true
  | [], _ => rfl
  | d :: ds, h => by
    have h' := Bool.and_eq_true_iff.mp h
    show (PyData.leavesShort 41 d.pd && PyData.leavesShortAll 41 (pdL ds)) = true
    rw [tidy_short d h'.1, tidyL_short ds h'.2]; rfl
end
mutual
theorem tidy_weight : ∀ d : D, d.tidy = true → d.pd.weight + 1 ≤ 150 * d.nodes
  | .non, _ => by decide
  | .bl _, _ => by show 0 + 1 ≤ 150 * 1; decide
  | .int i, h => by
    have h := log2_40 (of_decide_eq_true h)
    show (if i == 0 then 0 else i.natAbs.log2 + 1) + 1 ≤ 150 * 1
    split <;> omega
  | .str x, h => by
    have h := of_decide_eq_true (Bool.and_eq_true_iff.mp h).2
    show x.cps.size + 1 ≤ 150 * 1
    omega
  | .tup ds, h => by
    have := tidyL_weight ds h
    show PyData.weightAll (pdL ds) + 1 ≤ 150 * (nodesL ds + 1)
    omega
  | .lst ds, h => by
    have := tidyL_weight ds h
    show PyData.weightAll (pdL ds) + 1 ≤ 150 * (nodesL ds + 1)
    omega
  | .scr _, h => nomatch h
  | .dct _ _, h => nomatch h
  | .ins _ _ _, h => nomatch h
theorem tidyL_weight : ∀ ds : List D, tidyL ds = true → PyData.weightAll (pdL ds) ≤ 150 * nodesL ds
  | [], _ => Nat.zero_le _
  | d :: ds, h => by
    have h' := Bool.and_eq_true_iff.mp h
    have a := tidy_weight d h'.1
    have b := tidyL_weight ds h'.2
    show d.pd.weight + 1 + PyData.weightAll (pdL ds) ≤ 150 * (d.nodes + nodesL ds)
    omega
end
theorem shows_of {d : D} (h : d.tidy = true) (hd : d.pd.depth ≤ 64) (hn : d.nodes ≤ 1000) : d.Shows := by
  refine ⟨tidy_plain d h, tidy_show d h, hd, ?_⟩
  have a := PyData.shown_le 41 (by decide) d.pd (tidy_short d h)
  have b := tidy_weight d h
  rw [sizeLine_eq]
  omega
end LV


set_option Elab.async false
set_option linter.all false
set_option maxRecDepth 100000
set_option maxHeartbeats 1000000
namespace LV
open PySem PySem.Spec L2
/-- a try with one handler: the body runs to a name -/
theorem try_k {wb ws : SW} {ct : Str → Option Bool} {i : Nat} {K : Ks} {env : En}
    (h : ∀ K1 : Ks, K1.nx = K.nx → K1.rt = K.rt → K1.bk = K.bk → K1.ct = K.ct →
      (∀ x e, noEx e = true → ct x.C = some true → (∀ a, ws (KsSu i K) (e.set i (some (.ex a x.C x.ks x.vs)))) → K1.ex x e) →
      (∀ x e, noEx e = true → ct x.C = some false → K.ex x e → K1.ex x e) → wb K1 env) : wTryAs wb ct i ws K env :=
  h { K with ex := fun x e => noEx e = true ∧ ∃ b, ct x.C = some b ∧ if b = true then ∀ a, ws (KsSu i K) (e.set i (some (.ex a x.C x.ks x.vs))) else K.ex x e } rfl rfl rfl rfl
    (fun x e n c q => ⟨n, true, c, by rw [if_pos rfl]; exact q⟩) (fun x e n c q => ⟨n, false, c, by rw [if_neg Bool.false_ne_true]; exact q⟩)
/-- an if: what follows its test is a name -/
theorem if_k {u : TW} {s t : SW} {K : Ks} {env : En} (h : ∀ G : Bool → En → Prop, (∀ e, t K e → G false e) → (∀ e, s K e → G true e) → u env G K.ex) : wIf u s t K env :=
  h (fun b e => if b = true then s K e else t K e) (fun e q => by rw [if_neg Bool.false_ne_true]; exact q) (fun e q => by rw [if_pos rfl]; exact q)
/-- an if at an or: the first part runs to a name -/
theorem if_or {a b : TW} {s t : SW} {K : Ks} {env : En} (h : ∀ G : Bool → En → Prop, (∀ e, wIf b s t K e → G false e) → (∀ e, s K e → G true e) → a env G K.ex) : wIf (wtOr a b) s t K env :=
  h (fun v e => if v = true then (fun v e => if v = true then s K e else t K e) true e else b e (fun v e => if v = true then s K e else t K e) K.ex) (fun e q => by rw [if_neg Bool.false_ne_true]; exact q) (fun e q => by rw [if_pos rfl]; show (if true = true then s K e else t K e); rw [if_pos rfl]; exact q)
/-- an operator: what follows its left side is a name -/
theorem op_k {g : G2} {wa wb : EW} {env : En} {Q : Rv → En → Prop} {E : XW} (h : ∀ F : Rv → En → Prop, (∀ ra e1, (wFz wb e1 (fun rb e2 => ∃ d d', look e2 ra = some d ∧ look e2 rb = some d' ∧ g d d' fun r => Q r e2) E) → F ra e1) → wFz wa env F E) : wOp2 g wa wb env Q E :=
  h (fun ra e1 => wFz wb e1 (fun rb e2 => ∃ d d', look e2 ra = some d ∧ look e2 rb = some d' ∧ g d d' fun r => Q r e2) E) fun _ _ q => q
end LV


set_option Elab.async false
set_option linter.all false
set_option maxRecDepth 100000
set_option maxHeartbeats 1000000
namespace LV
open PySem PySem.Spec L2
/-! ### [elt for tg in iter for tg1 in iter1] -/
def compW2 (tg : Tg) (it1 : IW) (tg1 : Tg) (w : EW) (vs vs1 : List Nat) (keep : KeepE) (Q : List D → En → Prop) : List D → List D → En → Prop
  | [], acc, env => keep env ∧ Q acc env
  | d :: ds, acc, env => keep env ∧ ∃ e1, bindT tg d env = some e1 ∧ it1 e1 (fun ys keep1 e2 => compW tg1 uYes w vs1 keep1 (fun acc' e' => compW2 tg it1 tg1 w vs vs1 keep Q ds acc' (wipeE e' vs)) ys acc (wipeE e2 vs1)) X0
theorem uYes_e {env : En} {Q : Bool → En → Prop} {E : XW} (h : uYes env Q E) : Q true env := h
theorem MonoT.uYes : MonoT uYes := ⟨fun hQ _ h => hQ _ _ h⟩
theorem compW2_mono {tg tg1 : Tg} {it1 : IW} {w : EW} {vs vs1 : List Nat} {keep : KeepE} {Q Q' : List D → En → Prop} (mi : MonoI it1) (mw : Mono w) (h : ∀ a e, Q a e → Q' a e) : ∀ {ds acc : List D} {env : En}, compW2 tg it1 tg1 w vs vs1 keep Q ds acc env → compW2 tg it1 tg1 w vs vs1 keep Q' ds acc env
  | [], _, _, ⟨a, q⟩ => ⟨a, h _ _ q⟩
  | d :: ds, acc, env, ⟨a, e1, b, q⟩ => ⟨a, e1, b, mi.mo (fun _ _ _ z => compW_mono .uYes mw (fun _ _ z => compW2_mono mi mw h z) z) (fun _ _ z => z) q⟩
def wLc2 (tg : Tg) (it : IW) (tg1 : Tg) (it1 : IW) (w : EW) (vs vs1 : List Nat) : EW := fun env Q E => it env (fun xs keep e => compW2 tg it1 tg1 w vs vs1 keep (fun acc e' => Q (.ow (.lst acc)) e') xs [] (wipeE e vs)) E
theorem Mono.lc2 {tg tg1 : Tg} {it it1 : IW} {w : EW} {vs vs1 : List Nat} (mi : MonoI it) (mi1 : MonoI it1) (mw : Mono w) : Mono (wLc2 tg it tg1 it1 w vs vs1) := ⟨fun hQ hE h => mi.mo (fun _ _ _ z => compW2_mono mi1 mw (fun _ _ q => hQ _ _ q) z) hE h⟩
theorem wipe_two {σ : St} {vs vs1 : List Nat} (h : ∀ i ∈ vs1, i ∈ vs) : wipe (wipe σ vs1) vs = wipe σ vs :=
  wipe_congr (wipe_length _ _) fun i hi => wipe_out' fun z => hi (h i z)
section
variable {M : Md} {c : Ct} {W : WX} {σ : St} {H : Hp}
theorem lc2_rd {tg tg1 : Tg} {it it1 : IW} {w : EW} {vs vs1 : List Nat} {Q : VK} (mi : MonoI it) (mi1 : MonoI it1) (mw : Mono w) (hv : ∀ i ∈ vs, i ∉ c.pn) (hv1 : ∀ i ∈ vs1, i ∈ vs) (ht : ∀ i ∈ tg.slots, i ∈ vs) (ht1 : ∀ i ∈ tg1.slots, i ∈ vs1)
    (h : ERd M c W (wLc2 tg it tg1 it1 w vs vs1) σ H Q) : tLc2 (IRd M c W it) (gT M.K tg) tYes (IRd M c W0 it1) (gT M.K tg1) tYes (ERd M c W0 w) vs vs1 σ H Q := by
  have hvv : ∀ i ∈ vs1, i ∉ c.pn := fun i hi => hv i (hv1 i hi)
  obtain ⟨F, env, R, h⟩ := h
  refine ⟨F, env, R, mi.mo (fun xs keep e1 z => ?_) (fun _ _ z => z) h⟩
  intro F1 H1 J R1 ev1 wk D hD
  have hDF : F1 D = none := R1.sub.free hD
  have R2 : Rel M c F1 (upd H1 D (.lst [])) (wipe σ vs) (wipeE e1 vs) := (R1.evo (Evo.newO hD) (same_newO R1.sub hD)).wiped hv
  refine ⟨fun i m H' => m = xs.length - i ∧ i ≤ xs.length ∧ ∃ F' e0 acc accV, Rel M c F' H' (wipe σ vs) (wipeE e0 vs) ∧ Same F1 F' ∧ Evo (Own σ env) (Own (wipe σ vs) (wipeE e0 vs)) F H F' H' ∧ H' D = some (.lst accV) ∧ F' D = none ∧ ¬ Own (wipe σ vs) (wipeE e0 vs) D ∧ RepL M F' accV acc ∧
      compW2 tg it1 tg1 w vs vs1 keep (fun acc e' => EPost M c F H σ env Q (.ow (.lst acc)) e') (xs.drop i) acc (wipeE e0 vs),
    ⟨xs.length, by simp, Nat.zero_le _, F1, e1, [], [], R2, Same.refl _, (ev1.trans (Evo.newO hD).nob).trans (Evo.sub own_wipe), upd_same, hDF, fun z => R1.notOwn hD (own_wipe _ z), .nil, z⟩, ?_⟩
  rintro i m H' ⟨rfl, hi, F', e0, acc, accV, R', sm, ev, hDH, hDF', hDo, ra, cw⟩
  by_cases hlt : i < xs.length
  · have hd : xs.drop i = xs[i] :: xs.drop (i + 1) := List.drop_eq_getElem_cons hlt
    rw [hd] at cw
    obtain ⟨kp, e2, hb2, cw⟩ := cw
    obtain ⟨go, yld⟩ := wk.go F' H' (wipe σ vs) (wipeE e0 vs) R' sm kp i xs[i] (List.getElem?_eq_getElem hlt)
    refine .inr ⟨go, fun H'' => ∃ F' e0 acc accV, Rel M c F' H'' (wipe σ vs) (wipeE e0 vs) ∧ Same F1 F' ∧ Evo (Own σ env) (Own (wipe σ vs) (wipeE e0 vs)) F H F' H'' ∧ H'' D = some (.lst accV) ∧ F' D = none ∧ ¬ Own (wipe σ vs) (wipeE e0 vs) D ∧ RepL M F' accV acc ∧
      compW2 tg it1 tg1 w vs vs1 keep (fun acc e' => EPost M c F H σ env Q (.ow (.lst acc)) e') (xs.drop (i + 1)) acc (wipeE e0 vs),
      fun H'' h => ⟨xs.length - (i + 1), by omega, rfl, hlt, h⟩, fun x H'' hy => ?_⟩
    obtain ⟨F2, s2, ev2, rx⟩ := yld x H'' hy
    have R2' := R'.evo ev2 s2
    obtain ⟨k1, k2, k3⟩ := ev2.nob.keepTemp (A := Own (wipe σ vs) (wipeE e0 vs)) hDH hDF' hDo
    refine bindT_ok (fun j hj => hv j (ht j hj)) R2' rx hb2 fun us R3 ow3 => ?_
    have w1 : wipe (stT tg x us (wipe σ vs)) vs = wipe σ vs := wipe_stT ht
    refine ⟨w1, ?_⟩
    have ev3 : Evo (Own σ env) (Own (stT tg x us (wipe σ vs)) e2) F H F2 H'' := (ev.trans ev2.nob).trans (Evo.sub ow3)
    have d3 : ¬ Own (stT tg x us (wipe σ vs)) e2 D := fun z => hDo (ow3 D z)
    generalize hσ2 : stT tg x us (wipe σ vs) = σ2 at *
    show IRd M c W0 it1 σ2 H'' _
    refine ⟨F2, e2, R3, mi1.mo (fun ys keep1 e3 q => ?_) (fun _ _ z => z.elim) cw⟩
    intro F4 H4 J1 R4 ev4 wk1
    obtain ⟨l1, l2, l3⟩ := ev4.keepTemp k1 k2 d3
    have ra4 := ra.same (F' := F4) (ev2.fs.trans ev4.fs)
    have sm4 : Same F1 F4 := (sm.trans ev2.fs).trans ev4.fs
    have R5 := R4.wiped hvv
    refine ⟨fun j k H' => k = ys.length - j ∧ j ≤ ys.length ∧ ∃ F' e0 acc accV, Rel M c F' H' (wipe σ2 vs1) (wipeE e0 vs1) ∧ Same F4 F' ∧ Evo (Own σ env) (Own (wipe σ2 vs1) (wipeE e0 vs1)) F H F' H' ∧ H' D = some (.lst accV) ∧ F' D = none ∧ ¬ Own (wipe σ2 vs1) (wipeE e0 vs1) D ∧ RepL M F' accV acc ∧
        compW tg1 uYes w vs1 keep1 (fun acc' e' => compW2 tg it1 tg1 w vs vs1 keep (fun acc e' => EPost M c F H σ env Q (.ow (.lst acc)) e') (xs.drop (i + 1)) acc' (wipeE e' vs)) (ys.drop j) acc (wipeE e0 vs1),
      ⟨ys.length, by simp, Nat.zero_le _, F4, e3, acc, accV, R5, Same.refl _, (ev3.trans ev4).trans (Evo.sub own_wipe), l1, l2, fun z => l3 (own_wipe _ z), ra4, q⟩, ?_⟩
    rintro j k Hj ⟨rfl, hj, Fj, ej, accj, accVj, Rj, smj, evj, hDHj, hDFj, hDoj, raj, cwj⟩
    by_cases hltj : j < ys.length
    · have hdj : ys.drop j = ys[j] :: ys.drop (j + 1) := List.drop_eq_getElem_cons hltj
      rw [hdj] at cwj
      obtain ⟨kpj, e5, hb5, cwj⟩ := cwj
      obtain ⟨goj, yldj⟩ := wk1.go Fj Hj (wipe σ2 vs1) (wipeE ej vs1) Rj smj kpj j ys[j] (List.getElem?_eq_getElem hltj)
      refine .inr ⟨goj, fun H'' => ∃ F' e0 acc accV, Rel M c F' H'' (wipe σ2 vs1) (wipeE e0 vs1) ∧ Same F4 F' ∧ Evo (Own σ env) (Own (wipe σ2 vs1) (wipeE e0 vs1)) F H F' H'' ∧ H'' D = some (.lst accV) ∧ F' D = none ∧ ¬ Own (wipe σ2 vs1) (wipeE e0 vs1) D ∧ RepL M F' accV acc ∧
          compW tg1 uYes w vs1 keep1 (fun acc' e' => compW2 tg it1 tg1 w vs vs1 keep (fun acc e' => EPost M c F H σ env Q (.ow (.lst acc)) e') (xs.drop (i + 1)) acc' (wipeE e' vs)) (ys.drop (j + 1)) acc (wipeE e0 vs1),
        fun H'' h => ⟨ys.length - (j + 1), by omega, rfl, hltj, h⟩, fun y H5 hy5 => ?_⟩
      obtain ⟨F5, s5, ev5, ry⟩ := yldj y H5 hy5
      have R5' := Rj.evo ev5 s5
      obtain ⟨m1, m2, m3⟩ := ev5.nob.keepTemp (A := Own (wipe σ2 vs1) (wipeE ej vs1)) hDHj hDFj hDoj
      refine bindT_ok (fun z hz => hvv z (ht1 z hz)) R5' ry hb5 fun us5 R6 ow6 => ?_
      have w2 : wipe (stT tg1 y us5 (wipe σ2 vs1)) vs1 = wipe σ2 vs1 := wipe_stT ht1
      refine ⟨w2, ?_⟩
      have ev6 : Evo (Own σ env) (Own (stT tg1 y us5 (wipe σ2 vs1)) e5) F H F5 H5 := (evj.trans ev5.nob).trans (Evo.sub ow6)
      have d6 : ¬ Own (stT tg1 y us5 (wipe σ2 vs1)) e5 D := fun z => hDoj (ow6 D z)
      show ERd M c W0 w (stT tg1 y us5 (wipe σ2 vs1)) H5 _
      have q6 := uYes_e cwj
      simp only [if_true] at q6
      refine opd mw R6 (mw.fz.mo (fun _ _ z => z) (fun _ _ z => z.elim) q6) fun r e7 v F7 H7 R7 ev7 ok7 ⟨dd, e8, hf, hl, q⟩ => ?_
      obtain ⟨F8, R8, ev8, rv⟩ := frz1_ok R7 ok7 hf
      have ev78 := ev7.trans ev8
      obtain ⟨n1, n2, n3⟩ := ev78.keepTemp m1 m2 d6
      refine ⟨accVj, n1, by rw [(raj.same (F' := F8) (ev5.fs.trans ev78.fs)).length]; exact hl, ?_⟩
      have hDnone : ∀ b o, F8 b = some o → b ≠ D := fun b o hb z => by rw [z, n2] at hb; cases hb
      have R9 : Rel M c F8 (upd H7 D (.lst (accVj ++ [v]))) (stT tg1 y us5 (wipe σ2 vs1)) e8 := by
        refine ⟨fun b o hb => by rw [upd_ne (hDnone b o hb)]; exact R8.sub b o hb, R8.len, R8.fz, fun j o hj => ?_, R8.ex, R8.sep, R8.pin, fun b u hb => ?_, R8.fr⟩
        · obtain ⟨pp, h1, h2, h3⟩ := R8.ow j o hj
          have : pp ≠ D := fun z => n3 ⟨j, o, hj, z ▸ h1⟩
          exact ⟨pp, h1, h2, h3.same (Same.refl _) (upd_ne this)⟩
        · obtain ⟨u', hu⟩ := R8.old b u hb
          by_cases hbd : b = D
          · exact ⟨_, by rw [hbd]; exact upd_same⟩
          · exact ⟨u', by rw [upd_ne hbd]; exact hu⟩
      have H0D : H D = none := ev1.noneOf hD
      have evA := ev6.trans ev78
      have ev9 : Evo (Own σ env) (Own (stT tg1 y us5 (wipe σ2 vs1)) e8) F H F8 (upd H7 D (.lst (accVj ++ [v]))) := by
        refine ⟨evA.fs, evA.fn, fun b o hb hn => ?_, fun b o hb => ?_, evA.aa⟩
        · have : b ≠ D := fun z => by rw [z, H0D] at hb; cases hb
          rw [upd_ne this]; exact evA.hk b o hb hn
        · by_cases hbd : b = D
          · exact ⟨_, by rw [hbd]; exact upd_same⟩
          · rw [upd_ne hbd]; exact evA.ht b o hb
      have R10 := R9.wiped hvv
      rw [w2] at R10
      have o8 : ∀ b, Own (wipe σ2 vs1) (wipeE e8 vs1) b → Own (stT tg1 y us5 (wipe σ2 vs1)) e8 b := fun b hb => own_wipe b (by rw [w2]; exact hb)
      exact ⟨F8, e8, accj ++ [dd], accVj ++ [v], R10, (smj.trans ev5.fs).trans ev78.fs, ev9.trans (Evo.sub o8), upd_same, n2, fun z => n3 (o8 D z), (raj.same (ev5.fs.trans ev78.fs)).append (.cons rv .nil), q⟩
    · have ej' : j = ys.length := by omega
      subst ej'
      rw [List.drop_length] at cwj
      obtain ⟨kpj, cwj⟩ := cwj
      have ww : wipe (wipe σ2 vs1) vs = wipe σ vs := (wipe_two hv1).trans w1
      have R11 := Rj.wiped hv
      rw [ww] at R11
      have o11 : ∀ b, Own (wipe σ vs) (wipeE (wipeE ej vs1) vs) b → Own (wipe σ2 vs1) (wipeE ej vs1) b := fun b hb => own_wipe b (by rw [ww]; exact hb)
      exact .inl ⟨wk1.stop Fj Hj (wipe σ2 vs1) (wipeE ej vs1) Rj smj kpj _ (Nat.le_refl _), Fj, wipeE ej vs1, accj, accVj, R11, sm4.trans smj, evj.trans (Evo.sub o11), hDHj, hDFj, fun z => hDoj (o11 D z), raj, cwj⟩
  · have e : i = xs.length := by omega
    subst e
    rw [List.drop_length] at cw
    obtain ⟨kp, cw⟩ := cw
    refine .inl ⟨wk.stop F' H' (wipe σ vs) (wipeE e0 vs) R' sm kp _ (Nat.le_refl _), ?_⟩
    exact cw (.ref D) F' H' (R'.unwipe hv) (ev.trans (Evo.sub own_unwipe)) ⟨D, rfl, hDF', ⟨accV, hDH, ra⟩, fun z => hDo (own_unwipe D z), ev1.noneOf hD⟩
end
section
variable {X : Cx} {c : Ct} {W : WX} {elt tgE iter tgE1 iter1 : Expr} {scope : Scope} {own : List (Str × Nat)} {vs1 : List Nat} {pos : Pos} {tg tg1 : Tg} {it it1 : IW} {w : EW}
theorem se_lc2 (hc : X.calm = true) (hN : X.N.Nodup) (hi : SI X c W tgE iter it) (ok : BlkOk X.N X.env.scope scope own) (hv : ∀ i ∈ own.map (·.2), i ∉ c.pn) (hv1 : ∀ i ∈ vs1, i ∈ own.map (·.2)) (ht : ∀ i ∈ tg.slots, i ∈ own.map (·.2)) (ht1 : ∀ i ∈ tg1.slots, i ∈ vs1) (mi1 : MonoI it1) (mw : Mono w)
    (hg : ∀ (s : Shared) (H : Hp) (C : Addr) (cl : List (Str × Addr)) (fp : List Addr), SG (X.blk s H scope (compEnvC scope cl C X.env) fp) tgE tg)
    (hi1 : ∀ (s : Shared) (H : Hp) (C : Addr) (cl : List (Str × Addr)) (fp : List Addr), SI (X.blk s H scope (compEnvC scope cl C X.env) fp) c W0 tgE1 iter1 it1)
    (hg1 : ∀ (s : Shared) (H : Hp) (C : Addr) (cl : List (Str × Addr)) (fp : List Addr), SG (X.blk s H scope (compEnvC scope cl C X.env) fp) tgE1 tg1)
    (he : ∀ (s : Shared) (H : Hp) (C : Addr) (cl : List (Str × Addr)) (fp : List Addr), SE (X.blk s H scope (compEnvC scope cl C X.env) fp) c W0 elt w)
    (hs : ∀ x, foldedSetIterable iter X.env x = pure x := by intro _; rfl) (hs1 : ∀ env x, foldedSetIterable iter1 env x = pure x := by intro _ _; rfl) : SE X c W (.ListComp elt [⟨tgE, iter, [], 0⟩, ⟨tgE1, iter1, [], 0⟩] scope pos) (wLc2 tg it tg1 it1 w (own.map (·.2)) vs1) :=
  ⟨PE.imp (pe_lc2 (te := ERd (mdX X) c W0 w) (tt := tYes) (tt1 := tYes) (wi1 := IRd (mdX X) c W0 it1) (g := gT X.K tg) (g1 := gT X.K tg1) hc hN hi.pi ok hv1 (fun s H C cl fp => (hg s H C cl fp).pg) (fun s H C cl fp => pts_nil) (fun s H C cl fp => (hi1 s H C cl fp).pi) (fun s H C cl fp => (hg1 s H C cl fp).pg) (fun s H C cl fp => pts_nil) (fun s H C cl fp => (he s H C cl fp).pe) hs hs1) fun σ H Q h => lc2_rd hi.mo mi1 mw hv hv1 ht ht1 h, .lc2 hi.mo mi1 mw⟩
theorem se_lc2V (hc : X.calm = true) (hN : X.N.Nodup) (ok : BlkOk X.N X.env.scope scope own) (hi : SI X c W tgE iter it) (hv : ∀ i ∈ own.map (·.2), i ∉ c.pn) (hv1 : ∀ i ∈ vs1, i ∈ own.map (·.2)) (ht : ∀ i ∈ tg.slots, i ∈ own.map (·.2)) (ht1 : ∀ i ∈ tg1.slots, i ∈ vs1)
    (hg : ∀ (s : Shared) (H : Hp) (C : Addr) (cl : List (Str × Addr)) (fp : List Addr), SG (X.blk s H scope (compEnvC scope cl C X.env) fp) tgE tg)
    (hi1 : ∀ (s : Shared) (H : Hp) (C : Addr) (cl : List (Str × Addr)) (fp : List Addr), SI (X.blk s H scope (compEnvC scope cl C X.env) fp) c W0 tgE1 iter1 it1)
    (hg1 : ∀ (s : Shared) (H : Hp) (C : Addr) (cl : List (Str × Addr)) (fp : List Addr), SG (X.blk s H scope (compEnvC scope cl C X.env) fp) tgE1 tg1)
    (he : ∀ (s : Shared) (H : Hp) (C : Addr) (cl : List (Str × Addr)) (fp : List Addr), SE (X.blk s H scope (compEnvC scope cl C X.env) fp) c W0 elt w)
    (hs : ∀ x, foldedSetIterable iter X.env x = pure x := by intro _; rfl) (hs1 : ∀ env x, foldedSetIterable iter1 env x = pure x := by intro _ _; rfl) : SE X c W (.ListComp elt [⟨tgE, iter, [], 0⟩, ⟨tgE1, iter1, [], 0⟩] scope pos) (wLc2 tg it tg1 it1 w (own.map (·.2)) vs1) :=
  se_lc2 hc hN hi ok hv hv1 ht ht1 (hi1 X.s_0 X.H_0 0 [] []).mo (he X.s_0 X.H_0 0 [] []).mo hg hi1 hg1 he hs hs1
end
end LV


set_option Elab.async false
set_option linter.all false
set_option maxRecDepth 100000
set_option maxHeartbeats 400000
namespace LV
open PySem PySem.Spec L2
/-! ### rows that cover, least rows: plain lists -/
def cov (xs ys : List Int) : Bool := (xs.zip ys).all fun p => decide (p.2 ≤ p.1)
theorem cov_nil : cov [] [] = true := rfl
theorem cov_cons {x y : Int} {xs ys : List Int} : cov (x :: xs) (y :: ys) = (decide (y ≤ x) && cov xs ys) := rfl
theorem cov_refl : ∀ xs : List Int, cov xs xs = true
  | [] => rfl
  | x :: xs => by rw [cov_cons, cov_refl xs, decide_eq_true (Int.le_refl x)]; rfl
theorem cov_trans : ∀ {xs ys zs : List Int}, xs.length = ys.length → ys.length = zs.length → cov xs ys = true → cov ys zs = true → cov xs zs = true
  | [], _, _, _, _, _, _ => by unfold cov; rfl
  | _ :: _, [], _, l, _, _, _ => nomatch l
  | _ :: _, _ :: _, [], _, l, _, _ => nomatch l
  | x :: xs, y :: ys, z :: zs, l, l', h, h' => by
    rw [cov_cons, Bool.and_eq_true_iff] at h h' ⊢
    have a := of_decide_eq_true h.1
    have b := of_decide_eq_true h'.1
    exact ⟨decide_eq_true (by omega), cov_trans (Nat.succ.inj l) (Nat.succ.inj l') h.2 h'.2⟩
/-- a row covered by another one stands ahead of it -/
theorem cov_lt : ∀ {xs ys : List Int}, xs.length = ys.length → cov xs ys = true → xs ≠ ys → ltI ys xs = true
  | [], [], _, _, n => absurd rfl n
  | [], _ :: _, l, _, _ => nomatch l
  | _ :: _, [], l, _, _ => nomatch l
  | x :: xs, y :: ys, l, h, n => by
    rw [cov_cons, Bool.and_eq_true_iff] at h
    have a := of_decide_eq_true h.1
    show (if y = x then ltI ys xs else decide (y < x)) = true
    by_cases e : y = x
    · rw [if_pos e]
      exact cov_lt (Nat.succ.inj l) h.2 fun z => n (by rw [z, e])
    · rw [if_neg e]; exact decide_eq_true (by omega)
theorem ltI_trans : ∀ {xs ys zs : List Int}, ltI xs ys = true → ltI ys zs = true → ltI xs zs = true
  | [], [], _, h, _ => nomatch h
  | _ :: _, [], _, h, _ => nomatch h
  | [], _ :: _, [], _, h => nomatch h
  | [], _ :: _, _ :: _, _, _ => rfl
  | _ :: _, _ :: _, [], _, h => nomatch h
  | x :: xs, y :: ys, z :: zs, h, h' => by
    have h : (if x = y then ltI xs ys else decide (x < y)) = true := h
    have h' : (if y = z then ltI ys zs else decide (y < z)) = true := h'
    show (if x = z then ltI xs zs else decide (x < z)) = true
    by_cases e : x = y
    · rw [if_pos e] at h
      by_cases e' : y = z
      · rw [if_pos e'] at h'
        rw [if_pos (e.trans e')]; exact ltI_trans h h'
      · rw [if_neg e'] at h'
        rw [if_neg (e ▸ e')]; rw [e]; exact h'
    · rw [if_neg e] at h
      have a := of_decide_eq_true h
      by_cases e' : y = z
      · rw [← e', if_neg e]; exact h
      · rw [if_neg e'] at h'
        have b := of_decide_eq_true h'
        rw [if_neg (by omega)]; exact decide_eq_true (by omega)
/-- r is a least one of rows -/
def Min (rows : List (List Int)) (r : List Int) : Prop := ∀ s ∈ rows, cov r s = true → s = r
structure Least (rows K : List (List Int)) : Prop where
  mem : ∀ r, r ∈ K ↔ r ∈ rows ∧ Min rows r
  srt : K.Pairwise fun a b => ltI a b = true
/-- two ascending lists of the same rows are one -/
theorem srt_uniq : ∀ {K L : List (List Int)}, (K.Pairwise fun a b => ltI a b = true) → (L.Pairwise fun a b => ltI a b = true) → (∀ r, r ∈ K ↔ r ∈ L) → K = L
  | [], [], _, _, _ => rfl
  | [], r :: L, _, _, h => nomatch (h r).mpr List.mem_cons_self
  | r :: K, [], _, _, h => nomatch (h r).mp List.mem_cons_self
  | r :: K, s :: L, hK, hL, h => by
    have hK' := List.pairwise_cons.mp hK
    have hL' := List.pairwise_cons.mp hL
    have e : r = s := by
      rcases List.mem_cons.mp ((h r).mp List.mem_cons_self) with e | e
      · exact e
      · rcases List.mem_cons.mp ((h s).mpr List.mem_cons_self) with e' | e'
        · exact e'.symm
        · have z := ltI_trans (hL'.1 r e) (hK'.1 s e')
          rw [ltI_irr] at z; cases z
    subst e
    rw [srt_uniq hK'.2 hL'.2 fun x => ⟨fun hx => ?_, fun hx => ?_⟩]
    · rcases List.mem_cons.mp ((h x).mp (List.mem_cons_of_mem _ hx)) with e | e
      · subst e
        have z := hK'.1 x hx
        rw [ltI_irr] at z; cases z
      · exact e
    · rcases List.mem_cons.mp ((h x).mpr (List.mem_cons_of_mem _ hx)) with e | e
      · subst e
        have z := hL'.1 x hx
        rw [ltI_irr] at z; cases z
      · exact e
theorem Least.uniq {rows rows' K L : List (List Int)} (hK : Least rows K) (hL : Least rows' L) (h : ∀ r, r ∈ rows ↔ r ∈ rows') : K = L :=
  srt_uniq hK.srt hL.srt fun r => by
    rw [hK.mem, hL.mem, h r]
    exact ⟨fun ⟨a, b⟩ => ⟨a, fun s hs => b s ((h s).mpr hs)⟩, fun ⟨a, b⟩ => ⟨a, fun s hs => b s ((h s).mp hs)⟩⟩
/-- below each row of an ascending list there is a least one -/
theorem least_below {w : Nat} {rows : List (List Int)} (hw : ∀ r ∈ rows, r.length = w) : ∀ (L : List (List Int)), (L.Pairwise fun a b => ltI a b = true) → (∀ r, r ∈ L → r ∈ rows) → (∀ r ∈ L, ∀ s ∈ rows, cov r s = true → s ∈ L) → ∀ r ∈ L, ∃ s ∈ L, cov r s = true ∧ Min rows s := by
  intro L
  generalize hn : L.length = n
  induction n generalizing L with
  | zero => intro _ _ _ r hr; rw [List.length_eq_zero_iff.mp hn] at hr; cases hr
  | succ n ih =>
    intro hs hL hcl r hr
    -- the last row of L
    obtain ⟨L0, z, rfl⟩ : ∃ L0 z, L = L0 ++ [z] := ⟨L.dropLast, L.getLast (by intro e; rw [e] at hn; cases hn), (List.dropLast_concat_getLast _).symm⟩
    have hn0 : L0.length = n := by rw [List.length_append, List.length_singleton] at hn; omega
    obtain ⟨s0, _, sz⟩ := List.pairwise_append.mp hs
    have cl0 : ∀ r ∈ L0, ∀ s ∈ rows, cov r s = true → s ∈ L0 := fun r hr0 s hs' c => by
      rcases List.mem_append.mp (hcl r (List.mem_append_left _ hr0) s hs' c) with h | h
      · exact h
      · rw [List.mem_singleton] at h
        subst h
        have e1 := sz r hr0 s (List.mem_singleton.mpr rfl)
        by_cases e : r = s
        · subst e; rw [ltI_irr] at e1; cases e1
        · have e2 := cov_lt (by rw [hw r (hL r (List.mem_append_left _ hr0)), hw s hs']) c e
          have e3 := ltI_trans e1 e2
          rw [ltI_irr] at e3; cases e3
    have low := ih L0 hn0 s0 (fun r hr => hL r (List.mem_append_left _ hr)) cl0
    rcases List.mem_append.mp hr with h | h
    · obtain ⟨s, a, b, c⟩ := low r h
      exact ⟨s, List.mem_append_left _ a, b, c⟩
    · rw [List.mem_singleton] at h
      subst h
      by_cases hm : Min rows r
      · exact ⟨r, List.mem_append_right _ (List.mem_singleton.mpr rfl), cov_refl r, hm⟩
      · obtain ⟨s, hs', c, ne⟩ : ∃ s, s ∈ rows ∧ cov r s = true ∧ s ≠ r := by
          apply Classical.byContradiction
          intro z
          exact hm fun s h1 h2 => Classical.byContradiction fun h3 => z ⟨s, h1, h2, h3⟩
        have sL : s ∈ L0 := by
          rcases List.mem_append.mp (hcl r (List.mem_append_right _ (List.mem_singleton.mpr rfl)) s hs' c) with h | h
          · exact h
          · exact absurd (List.mem_singleton.mp h) ne
        obtain ⟨t, a, b, c2⟩ := low s sL
        exact ⟨t, List.mem_append_left _ a, cov_trans (by rw [hw r (hL r (List.mem_append_right _ (List.mem_singleton.mpr rfl))), hw s hs']) (by rw [hw s hs', hw t (hL t (List.mem_append_left _ a))]) c b, c2⟩
end LV
namespace LV
theorem cov_sum : ∀ {xs ys : List Int}, xs.length = ys.length → cov xs ys = true → ys.sum ≤ xs.sum ∧ (xs ≠ ys → ys.sum < xs.sum)
  | [], [], _, _ => ⟨Int.le_refl _, fun n => absurd rfl n⟩
  | [], _ :: _, l, _ => nomatch l
  | _ :: _, [], l, _ => nomatch l
  | x :: xs, y :: ys, l, h => by
    rw [cov_cons, Bool.and_eq_true_iff] at h
    have a := of_decide_eq_true h.1
    obtain ⟨b, c⟩ := cov_sum (Nat.succ.inj l) h.2
    rw [List.sum_cons, List.sum_cons]
    refine ⟨by omega, fun n => ?_⟩
    by_cases e : x = y
    · have := c fun z => n (by rw [e, z])
      omega
    · omega
theorem sum_nn : ∀ {xs : List Int}, (∀ x ∈ xs, 0 ≤ x) → 0 ≤ xs.sum
  | [], _ => Int.le_refl _
  | x :: xs, h => by
    have a := h x List.mem_cons_self
    have b := sum_nn (xs := xs) fun y hy => h y (List.mem_cons_of_mem _ hy)
    rw [List.sum_cons]; omega
/-- each row covers a least one -/
theorem min_below {w : Nat} {rows : List (List Int)} (hw : ∀ r ∈ rows, r.length = w ∧ ∀ x ∈ r, 0 ≤ x) : ∀ (n : Nat) (r : List Int), r ∈ rows → r.sum ≤ n → ∃ s ∈ rows, cov r s = true ∧ Min rows s := by
  intro n
  induction n with
  | zero =>
    intro r hr hn
    refine ⟨r, hr, cov_refl r, fun s hs c => Classical.byContradiction fun ne => ?_⟩
    have h1 := (cov_sum ((hw r hr).1.trans (hw s hs).1.symm) c).2 fun z => ne z.symm
    have h2 := sum_nn (hw s hs).2
    omega
  | succ n ih =>
    intro r hr hn
    by_cases hm : Min rows r
    · exact ⟨r, hr, cov_refl r, hm⟩
    · obtain ⟨s, hs, c, ne⟩ : ∃ s, s ∈ rows ∧ cov r s = true ∧ s ≠ r := by
        apply Classical.byContradiction
        intro z
        exact hm fun s h1 h2 => Classical.byContradiction fun h3 => z ⟨s, h1, h2, h3⟩
      have h1 := (cov_sum ((hw r hr).1.trans (hw s hs).1.symm) c).2 fun z => ne z.symm
      obtain ⟨t, ht, c2, m2⟩ := ih s hs (by omega)
      exact ⟨t, ht, cov_trans ((hw r hr).1.trans (hw s hs).1.symm) ((hw s hs).1.trans (hw t ht).1.symm) c c2, m2⟩
end LV


set_option Elab.async false
set_option linter.all false
set_option maxRecDepth 100000
set_option maxHeartbeats 400000
namespace LV
open PySem PySem.Spec L2
/-! ### high rows: plain lists -/
abbrev High := List (Option Int)
def entD : Option Int → D
  | none => .non
  | some i => .int i
abbrev highD (h : High) : D := .tup (h.map entD)
theorem rowD_high (r : List Int) : rowD r = highD (r.map some) := by
  show D.tup _ = D.tup _
  rw [List.map_map]; rfl
theorem entD_inj : ∀ {a b : Option Int}, entD a = entD b → a = b
  | none, none, _ => rfl
  | none, some _, h => nomatch (show D.non = D.int _ from h)
  | some _, none, h => nomatch (show D.int _ = D.non from h)
  | some a, some b, h => by injection (show D.int a = D.int b from h) with h; rw [h]
theorem highD_inj {a b : High} (h : highD a = highD b) : a = b := by
  have h : a.map entD = b.map entD := by injection h
  induction a generalizing b with
  | nil => cases b with
    | nil => rfl
    | cons _ _ => cases h
  | cons x a ih => cases b with
    | nil => cases h
    | cons y b =>
      injection h with h1 h2
      rw [entD_inj h1, ih (congrArg D.tup h2) h2]
/-- an entry under a bound -/
def leB : Option Int → Option Int → Bool
  | _, none => true
  | none, some _ => false
  | some e, some b => decide (e ≤ b)
theorem leB_refl : ∀ x, leB x x = true
  | none => rfl
  | some x => decide_eq_true (Int.le_refl x)
theorem leB_trans : ∀ {x y z : Option Int}, leB x y = true → leB y z = true → leB x z = true
  | _, _, none, _, _ => rfl
  | none, none, some _, _, h => nomatch h
  | none, some _, some _, h, _ => nomatch h
  | some _, none, some _, _, h => nomatch h
  | some x, some y, some z, h, h' => by
    have a := of_decide_eq_true h
    have b := of_decide_eq_true h'
    exact decide_eq_true (Int.le_trans a b)
def under (a b : High) : Bool := (a.zip b).all fun p => leB p.1 p.2
theorem under_cons {x y : Option Int} {a b : High} : under (x :: a) (y :: b) = (leB x y && under a b) := rfl
theorem under_refl : ∀ a : High, under a a = true
  | [] => rfl
  | x :: a => by rw [under_cons, under_refl a, leB_refl]; rfl
theorem under_trans : ∀ {a b c : High}, a.length = b.length → b.length = c.length → under a b = true → under b c = true → under a c = true
  | [], _, _, _, _, _, _ => by unfold under; rfl
  | _ :: _, [], _, l, _, _, _ => nomatch l
  | _ :: _, _ :: _, [], _, l, _, _ => nomatch l
  | x :: a, y :: b, z :: c, l, l', h, h' => by
    rw [under_cons, Bool.and_eq_true_iff] at h h' ⊢
    exact ⟨leB_trans h.1 h'.1, under_trans (Nat.succ.inj l) (Nat.succ.inj l') h.2 h'.2⟩
/-- None stands behind every integer -/
def ltE : Option Int → Option Int → Bool
  | none, _ => false
  | some _, none => true
  | some a, some b => decide (a < b)
def ltH : High → High → Bool
  | [], [] => false
  | [], _ :: _ => true
  | _ :: _, [] => false
  | x :: a, y :: b => if x = y then ltH a b else ltE x y
theorem ltH_irr : ∀ a : High, ltH a a = false
  | [] => rfl
  | x :: a => by show (if x = x then ltH a a else ltE x x) = false; rw [if_pos rfl]; exact ltH_irr a
theorem ltE_trans : ∀ {x y z : Option Int}, ltE x y = true → ltE y z = true → ltE x z = true
  | none, _, _, h, _ => nomatch h
  | some _, none, _, _, h => nomatch h
  | some _, some _, none, _, _ => rfl
  | some a, some b, some c, h, h' => by
    have h := of_decide_eq_true h
    have h' := of_decide_eq_true h'
    exact decide_eq_true (Int.lt_trans h h')
theorem ltE_ne {x y : Option Int} (h : ltE x y = true) : x ≠ y := fun e => by
  subst e
  cases x with
  | none => cases h
  | some x => exact absurd (of_decide_eq_true h) (Int.lt_irrefl x)
theorem ltE_total : ∀ {x y : Option Int}, x ≠ y → ltE x y = false → ltE y x = true
  | none, none, n, _ => absurd rfl n
  | none, some _, _, _ => rfl
  | some _, none, _, h => nomatch h
  | some a, some b, n, h => by
    have h := of_decide_eq_false h
    have : a ≠ b := fun e => n (by rw [e])
    exact decide_eq_true (by omega)
theorem ltH_trans : ∀ {a b c : High}, ltH a b = true → ltH b c = true → ltH a c = true
  | [], [], _, h, _ => nomatch h
  | _ :: _, [], _, h, _ => nomatch h
  | [], _ :: _, [], _, h => nomatch h
  | [], _ :: _, _ :: _, _, _ => rfl
  | _ :: _, _ :: _, [], _, h => nomatch h
  | x :: a, y :: b, z :: c, h, h' => by
    have h : (if x = y then ltH a b else ltE x y) = true := h
    have h' : (if y = z then ltH b c else ltE y z) = true := h'
    show (if x = z then ltH a c else ltE x z) = true
    by_cases e : x = y
    · rw [if_pos e] at h
      by_cases e' : y = z
      · rw [if_pos e'] at h'
        rw [if_pos (e.trans e')]; exact ltH_trans h h'
      · rw [if_neg e'] at h'
        rw [if_neg (e ▸ e')]; rw [e]; exact h'
    · rw [if_neg e] at h
      by_cases e' : y = z
      · rw [← e', if_neg e]; exact h
      · rw [if_neg e'] at h'
        have := ltE_trans h h'
        rw [if_neg (ltE_ne this)]; exact this
theorem ltH_total : ∀ {a b : High}, a.length = b.length → a ≠ b → ltH a b = false → ltH b a = true
  | [], [], _, n, _ => absurd rfl n
  | [], _ :: _, l, _, _ => nomatch l
  | _ :: _, [], l, _, _ => nomatch l
  | x :: a, y :: b, l, n, h => by
    have h : (if x = y then ltH a b else ltE x y) = false := h
    show (if y = x then ltH b a else ltE y x) = true
    by_cases e : x = y
    · rw [if_pos e] at h
      rw [if_pos e.symm]
      exact ltH_total (Nat.succ.inj l) (fun z => n (by rw [e, z])) h
    · rw [if_neg e] at h
      rw [if_neg fun z => e z.symm]
      exact ltE_total e h
theorem leB_lt : ∀ {x y : Option Int}, leB x y = true → x ≠ y → ltE x y = true
  | none, none, _, n => absurd rfl n
  | some _, none, _, _ => rfl
  | none, some _, h, _ => nomatch h
  | some a, some b, h, n => by
    have h := of_decide_eq_true h
    have : a ≠ b := fun e => n (by rw [e])
    exact decide_eq_true (by omega)
/-- a high row under another one stands ahead of it -/
theorem under_lt : ∀ {a b : High}, a.length = b.length → under a b = true → a ≠ b → ltH a b = true
  | [], [], _, _, n => absurd rfl n
  | [], _ :: _, l, _, _ => nomatch l
  | _ :: _, [], l, _, _ => nomatch l
  | x :: a, y :: b, l, h, n => by
    rw [under_cons, Bool.and_eq_true_iff] at h
    show (if x = y then ltH a b else ltE x y) = true
    by_cases e : x = y
    · rw [if_pos e]
      exact under_lt (Nat.succ.inj l) h.2 fun z => n (by rw [z, e])
    · rw [if_neg e]; exact leB_lt h.1 e
theorem under_anti {a b : High} (l : a.length = b.length) (h : under a b = true) (h' : under b a = true) : a = b := by
  by_cases e : a = b
  · exact e
  · have h1 := ltH_trans (under_lt l h e) (under_lt l.symm h' fun z => e z.symm)
    rw [ltH_irr] at h1; cases h1
def Max (hs : List High) (h : High) : Prop := ∀ g ∈ hs, under h g = true → g = h
structure Great (hs K : List High) : Prop where
  mem : ∀ h, h ∈ K ↔ h ∈ hs ∧ Max hs h
  srt : K.Pairwise fun a b => ltH a b = true
theorem srtH_uniq : ∀ {K L : List High}, (K.Pairwise fun a b => ltH a b = true) → (L.Pairwise fun a b => ltH a b = true) → (∀ r, r ∈ K ↔ r ∈ L) → K = L
  | [], [], _, _, _ => rfl
  | [], r :: L, _, _, h => nomatch (h r).mpr List.mem_cons_self
  | r :: K, [], _, _, h => nomatch (h r).mp List.mem_cons_self
  | r :: K, s :: L, hK, hL, h => by
    have hK' := List.pairwise_cons.mp hK
    have hL' := List.pairwise_cons.mp hL
    have irr : ∀ {x : High}, ltH x x = true → False := fun {x} z => by rw [ltH_irr] at z; cases z
    have e : r = s := by
      rcases List.mem_cons.mp ((h r).mp List.mem_cons_self) with e | e
      · exact e
      · rcases List.mem_cons.mp ((h s).mpr List.mem_cons_self) with e' | e'
        · exact e'.symm
        · exact (irr (ltH_trans (hL'.1 r e) (hK'.1 s e'))).elim
    subst e
    rw [srtH_uniq hK'.2 hL'.2 fun x => ⟨fun hx => ?_, fun hx => ?_⟩]
    · rcases List.mem_cons.mp ((h x).mp (List.mem_cons_of_mem _ hx)) with e | e
      · subst e; exact (irr (hK'.1 x hx)).elim
      · exact e
    · rcases List.mem_cons.mp ((h x).mpr (List.mem_cons_of_mem _ hx)) with e | e
      · subst e; exact (irr (hL'.1 x hx)).elim
      · exact e
theorem Great.uniq {hs hs' K L : List High} (hK : Great hs K) (hL : Great hs' L) (h : ∀ r, r ∈ hs ↔ r ∈ hs') : K = L :=
  srtH_uniq hK.srt hL.srt fun r => by
    rw [hK.mem, hL.mem, h r]
    exact ⟨fun ⟨a, b⟩ => ⟨a, fun s hs => b s ((h s).mpr hs)⟩, fun ⟨a, b⟩ => ⟨a, fun s hs => b s ((h s).mp hs)⟩⟩
theorem filter_le {α : Type} {p q : α → Bool} : ∀ {l : List α}, (∀ x ∈ l, p x = true → q x = true) → (l.filter p).length ≤ (l.filter q).length
  | [], _ => Nat.le_refl _
  | z :: l, h => by
    have ih := filter_le (l := l) fun x hx => h x (List.mem_cons_of_mem _ hx)
    rw [List.filter_cons, List.filter_cons]
    cases hz : p z with
    | true => rw [if_pos rfl, h z List.mem_cons_self hz, if_pos rfl, List.length_cons, List.length_cons]; omega
    | false =>
      rw [if_neg Bool.false_ne_true]
      split
      · rw [List.length_cons]; omega
      · exact ih
theorem filter_lt {α : Type} {p q : α → Bool} {x : α} (hq : q x = true) (hp : p x = false) : ∀ {l : List α}, (∀ x ∈ l, p x = true → q x = true) → x ∈ l → (l.filter p).length < (l.filter q).length
  | y :: l, hpq, hx => by
    have hpq' : ∀ x ∈ l, p x = true → q x = true := fun x hx => hpq x (List.mem_cons_of_mem _ hx)
    rcases List.mem_cons.mp hx with e | e
    · subst e
      rw [List.filter_cons, hp, if_neg Bool.false_ne_true, List.filter_cons, hq, if_pos rfl, List.length_cons]
      have := filter_le hpq'
      omega
    · have ih := filter_lt hq hp hpq' e
      rw [List.filter_cons, List.filter_cons]
      cases h : p y with
      | true => rw [if_pos rfl, hpq y List.mem_cons_self h, if_pos rfl, List.length_cons, List.length_cons]; omega
      | false =>
        rw [if_neg Bool.false_ne_true]
        split
        · rw [List.length_cons]; omega
        · exact ih
/-- each high row is under a greatest one -/
theorem max_above {w : Nat} {hs : List High} (hw : ∀ h ∈ hs, h.length = w) : ∀ (n : Nat) (h : High), h ∈ hs → (hs.filter fun g => under h g && decide (g ≠ h)).length ≤ n → ∃ g ∈ hs, under h g = true ∧ Max hs g := by
  intro n
  induction n with
  | zero =>
    intro h hh hn
    refine ⟨h, hh, under_refl h, fun g hg c => Classical.byContradiction fun ne => ?_⟩
    have : g ∈ hs.filter fun g => under h g && decide (g ≠ h) := List.mem_filter.mpr ⟨hg, by rw [c, decide_eq_true ne]; rfl⟩
    rw [List.length_eq_zero_iff.mp (Nat.le_zero.mp hn)] at this
    cases this
  | succ n ih =>
    intro h hh hn
    by_cases hm : Max hs h
    · exact ⟨h, hh, under_refl h, hm⟩
    · obtain ⟨g, hg, c, ne⟩ : ∃ g, g ∈ hs ∧ under h g = true ∧ g ≠ h := by
        apply Classical.byContradiction
        intro z
        exact hm fun s h1 h2 => Classical.byContradiction fun h3 => z ⟨s, h1, h2, h3⟩
      have hlt : (hs.filter fun x => under g x && decide (x ≠ g)).length < (hs.filter fun x => under h x && decide (x ≠ h)).length := by
        refine filter_lt (x := g) (by rw [c, decide_eq_true ne]; rfl) (by simp) (fun x hx hp => ?_) hg
        have hp := Bool.and_eq_true_iff.mp hp
        rw [under_trans ((hw h hh).trans (hw g hg).symm) ((hw g hg).trans (hw x hx).symm) c hp.1, Bool.true_and]
        refine decide_eq_true fun e => ?_
        subst e
        exact ne (under_anti ((hw g hg).trans (hw x hx).symm) hp.1 c)
      obtain ⟨t, ht, c2, m2⟩ := ih g hg (by omega)
      exact ⟨t, ht, under_trans ((hw h hh).trans (hw g hg).symm) ((hw g hg).trans (hw t ht).symm) c c2, m2⟩
end LV


set_option Elab.async false
set_option linter.all false
set_option maxRecDepth 100000
set_option maxHeartbeats 400000
namespace LV
open PySem PySem.Spec L2
/-! ### the high rows that keep out rows: plain lists -/
abbrev rowH (r : List Int) : High := r.map some
theorem cov_under : ∀ big small : List Int, cov big small = under (rowH small) (rowH big)
  | [], [] => rfl
  | [], _ :: _ => rfl
  | _ :: _, [] => rfl
  | x :: xs, y :: ys => by rw [cov_cons, cov_under xs ys]; rfl
def HNn (h : High) : Prop := ∀ x ∈ h, ∀ i, x = some i → 0 ≤ i
theorem HNn.tl {x : Option Int} {h : High} (a : HNn (x :: h)) : HNn h := fun y hy => a y (List.mem_cons_of_mem _ hy)
/-- a place where x is below r -/
theorem kept_out : ∀ {x : High} {r : List Int}, x.length = r.length → under (rowH r) x = false → ∃ (i : Nat) (e b : Int), x[i]? = some (some e) ∧ r[i]? = some b ∧ e < b
  | [], [], _, h => by simp [under] at h
  | [], _ :: _, l, _ => nomatch l
  | _ :: _, [], l, _ => nomatch l
  | x :: xs, b :: r, l, h => by
    have h : (leB (some b) x && under (rowH r) xs) = false := h
    cases hx : leB (some b) x with
    | false =>
      cases x with
      | none => cases hx
      | some e =>
        have hx := of_decide_eq_false hx
        exact ⟨0, e, b, rfl, rfl, by omega⟩
    | true =>
      rw [hx, Bool.true_and] at h
      obtain ⟨i, e, b', h1, h2, h3⟩ := kept_out (Nat.succ.inj l) h
      exact ⟨i + 1, e, b', h1, h2, h3⟩
theorem keeps_out : ∀ {x : High} {r : List Int} {i : Nat} {e b : Int}, x[i]? = some (some e) → r[i]? = some b → e < b → under (rowH r) x = false
  | [], _, i, _, _, h, _, _ => by simp at h
  | _ :: _, [], i, _, _, _, h, _ => by simp at h
  | x :: xs, c :: r, 0, e, b, h1, h2, h3 => by
    have h1 : some x = some (some e) := h1
    have h2 : some c = some b := h2
    cases h1; cases h2
    show (leB (some c) (some e) && under (rowH r) xs) = false
    rw [show leB (some c) (some e) = false from decide_eq_false (by omega)]; rfl
  | x :: xs, c :: r, i + 1, e, b, h1, h2, h3 => by
    show (leB (some c) x && under (rowH r) xs) = false
    rw [keeps_out (x := xs) (r := r) (i := i) h1 h2 h3, Bool.and_false]
/-- under, place by place -/
theorem under_at : ∀ {a b : High}, a.length = b.length → (under a b = true ↔ ∀ (i : Nat) (x y : Option Int), a[i]? = some x → b[i]? = some y → leB x y = true)
  | [], [], _ => ⟨fun _ i x y h => by simp at h, fun _ => rfl⟩
  | [], _ :: _, l => nomatch l
  | _ :: _, [], l => nomatch l
  | x :: a, y :: b, l => by
    rw [under_cons, Bool.and_eq_true_iff, under_at (Nat.succ.inj l)]
    constructor
    · rintro ⟨h1, h2⟩ i u v hu hv
      cases i with
      | zero => cases hu; cases hv; exact h1
      | succ i => exact h2 i u v hu hv
    · intro h
      exact ⟨h 0 x y rfl rfl, fun i u v hu hv => h (i + 1) u v hu hv⟩
/-- the high row with another entry at i -/
theorem set_under {x h : High} {i : Nat} {v : Option Int} (l : x.length = h.length) (hu : under x h = true) (hi : ∀ e : Option Int, x[i]? = some e → leB e v = true) : under x (h.set i v) = true := by
  rw [under_at (by rw [List.length_set]; exact l)]
  intro j a b ha hb
  by_cases e : i = j
  · subst e
    rw [List.getElem?_set_self (by have := (List.getElem?_eq_some_iff.mp ha).1; omega)] at hb
    cases hb
    exact hi a ha
  · rw [List.getElem?_set_ne e] at hb
    exact (under_at l).mp hu j a b ha hb
theorem under_set {h : High} {i : Nat} {v : Option Int} (hi : ∀ e : Option Int, h[i]? = some e → leB v e = true) : under (h.set i v) h = true := by
  rw [under_at List.length_set]
  intro j a b ha hb
  by_cases e : i = j
  · subst e
    rw [List.getElem?_set_self (by have := (List.getElem?_eq_some_iff.mp hb).1; omega)] at ha
    cases ha
    exact hi b hb
  · rw [List.getElem?_set_ne e] at ha
    rw [ha] at hb; cases hb
    exact leB_refl _
/-- the parts of a high row outside of what covers r -/
def partsAt (h : High) (r : List Int) : List Nat → List High
  | [] => []
  | i :: is => (if r.getD i 0 > 0 then [h.set i (some (r.getD i 0 - 1))] else []) ++ partsAt h r is
def partsH (h : High) (r : List Int) : List High := if under (rowH r) h then partsAt h r (List.range r.length) else [h]
theorem mem_parts {h : High} {r : List Int} {k : High} : ∀ {is : List Nat}, k ∈ partsAt h r is ↔ ∃ i ∈ is, r.getD i 0 > 0 ∧ k = h.set i (some (r.getD i 0 - 1))
  | [] => ⟨fun z => (nomatch z), fun ⟨_, z, _⟩ => (nomatch z)⟩
  | i :: is => by
    rw [partsAt, List.mem_append, mem_parts]
    constructor
    · rintro (z | ⟨j, hj, z⟩)
      · by_cases hi : r.getD i 0 > 0
        · rw [if_pos hi] at z
          exact ⟨i, List.mem_cons_self, hi, List.mem_singleton.mp z⟩
        · rw [if_neg hi] at z; cases z
      · exact ⟨j, List.mem_cons_of_mem _ hj, z⟩
    · rintro ⟨j, hj, hp, z⟩
      rcases List.mem_cons.mp hj with e | hj
      · subst e
        rw [if_pos hp]
        exact .inl (List.mem_singleton.mpr z)
      · exact .inr ⟨j, hj, hp, z⟩
theorem getD_at {r : List Int} {i : Nat} (h : i < r.length) : r[i]? = some (r.getD i 0) := by
  rw [List.getD_eq_getElem?_getD, List.getElem?_eq_getElem h]; rfl
structure PartOk (h : High) (r : List Int) (k : High) : Prop where
  len : k.length = h.length
  le : under k h = true
  out : under (rowH r) k = false
  nn : HNn k
theorem parts_ok {h : High} {r : List Int} {k : High} (l : h.length = r.length) (hn : HNn h) (hk : k ∈ partsH h r) : PartOk h r k := by
  unfold partsH at hk
  cases hu : under (rowH r) h with
  | false =>
    rw [hu, if_neg Bool.false_ne_true] at hk
    rw [List.mem_singleton.mp hk]
    exact ⟨rfl, under_refl h, hu, hn⟩
  | true =>
    rw [hu, if_pos rfl] at hk
    obtain ⟨i, hi, hp, rfl⟩ := mem_parts.mp hk
    have hi := List.mem_range.mp hi
    have ri := getD_at hi
    refine ⟨List.length_set, under_set fun e he => ?_, keeps_out (i := i) (List.getElem?_set_self (by omega)) ri (by omega), fun x hx j e => ?_⟩
    · have := (under_at (a := rowH r) (b := h) (by rw [List.length_map]; exact l.symm)).mp hu i (some (r.getD i 0)) e (by rw [List.getElem?_map, ri]; rfl) he
      refine leB_trans (y := some (r.getD i 0)) (decide_eq_true (by omega)) this
    · rcases List.mem_or_eq_of_mem_set hx with z | z
      · exact hn x z j e
      · rw [z] at e; cases e; omega
theorem parts_above {h x : High} {r : List Int} (l : h.length = r.length) (lx : x.length = r.length) (xn : HNn x) (xu : under x h = true) (xo : under (rowH r) x = false) : ∃ k ∈ partsH h r, under x k = true := by
  unfold partsH
  cases hu : under (rowH r) h with
  | false =>
    rw [if_neg Bool.false_ne_true]
    exact ⟨h, List.mem_singleton_self _, xu⟩
  | true =>
    rw [if_pos rfl]
    obtain ⟨i, e, b, h1, h2, h3⟩ := kept_out lx xo
    have hi : i < r.length := (List.getElem?_eq_some_iff.mp h2).1
    have eb : r.getD i 0 = b := by rw [List.getD_eq_getElem?_getD, h2]; rfl
    have e0 := xn (some e) (List.mem_of_getElem? h1) e rfl
    refine ⟨h.set i (some (r.getD i 0 - 1)), mem_parts.mpr ⟨i, List.mem_range.mpr hi, by omega, rfl⟩, set_under (lx.trans l.symm) xu fun y hy => ?_⟩
    rw [h1] at hy; cases hy
    exact decide_eq_true (by omega)
/-! ### what highs_outside holds -/
structure Outs (w : Nat) (H : High) (R : List (List Int)) (K : List High) : Prop where
  srt : K.Pairwise fun a b => ltH a b = true
  anti : ∀ a ∈ K, ∀ b ∈ K, under a b = true → a = b
  len : ∀ k ∈ K, k.length = w
  nn : ∀ k ∈ K, HNn k
  le : ∀ k ∈ K, under k H = true
  out : ∀ k ∈ K, ∀ r ∈ R, under (rowH r) k = false
  all : ∀ x : High, x.length = w → HNn x → under x H = true → (∀ r ∈ R, under (rowH r) x = false) → ∃ k ∈ K, under x k = true
theorem Outs.nil {w : Nat} {H : High} (l : H.length = w) (hn : HNn H) : Outs w H [] [H] where
  srt := List.pairwise_singleton _ _
  anti := fun a ha b hb _ => by rw [List.mem_singleton.mp ha, List.mem_singleton.mp hb]
  len := fun k hk => by rw [List.mem_singleton.mp hk]; exact l
  nn := fun k hk => by rw [List.mem_singleton.mp hk]; exact hn
  le := fun k hk => by rw [List.mem_singleton.mp hk]; exact under_refl H
  out := fun _ _ _ z => (nomatch z)
  all := fun x _ _ hu _ => ⟨H, List.mem_singleton_self _, hu⟩
theorem Outs.step {w : Nat} {H : High} {R : List (List Int)} {K K' : List High} {r : List Int} (o : Outs w H R K) (lH : H.length = w) (lr : r.length = w) (lR : ∀ s ∈ R, s.length = w) (g : Great (K.flatMap fun k => partsH k r) K') : Outs w H (R ++ [r]) K' := by
  have mem : ∀ k ∈ K', ∃ k0 ∈ K, PartOk k0 r k := fun k hk => by
    obtain ⟨k0, h0, hp⟩ := List.mem_flatMap.mp ((g.mem k).mp hk).1
    exact ⟨k0, h0, parts_ok ((o.len k0 h0).trans lr.symm) (o.nn k0 h0) hp⟩
  have ln : ∀ k ∈ K', k.length = w := fun k hk => by
    obtain ⟨k0, h0, p⟩ := mem k hk
    exact p.len.trans (o.len k0 h0)
  refine ⟨g.srt, fun a ha b hb hu => ?_, ln, fun k hk => ?_, fun k hk => ?_, fun k hk s hs => ?_, fun x xl xn xu xo => ?_⟩
  · exact (((g.mem a).mp ha).2 b ((g.mem b).mp hb).1 hu).symm
  · obtain ⟨k0, h0, p⟩ := mem k hk
    exact p.nn
  · obtain ⟨k0, h0, p⟩ := mem k hk
    exact under_trans p.len ((o.len k0 h0).trans lH.symm) p.le (o.le k0 h0)
  · obtain ⟨k0, h0, p⟩ := mem k hk
    rcases List.mem_append.mp hs with z | z
    · cases hc : under (rowH s) k with
      | false => rfl
      | true =>
        have := under_trans (by rw [List.length_map, lR s z, ln k hk]) p.len hc p.le
        rw [o.out k0 h0 s z] at this; cases this
    · rw [List.mem_singleton.mp z]; exact p.out
  · obtain ⟨k0, h0, hu⟩ := o.all x xl xn xu fun s hs => xo s (List.mem_append_left _ hs)
    obtain ⟨k1, h1, hu1⟩ := parts_above ((o.len k0 h0).trans lr.symm) (xl.trans lr.symm) xn hu (xo r (List.mem_append_right _ (List.mem_singleton_self _)))
    have lp : ∀ k ∈ K.flatMap fun k => partsH k r, k.length = w := fun k hk => by
      obtain ⟨k0, h0, hp⟩ := List.mem_flatMap.mp hk
      exact (parts_ok ((o.len k0 h0).trans lr.symm) (o.nn k0 h0) hp).len.trans (o.len k0 h0)
    have m1 : k1 ∈ K.flatMap fun k => partsH k r := List.mem_flatMap.mpr ⟨k0, h0, h1⟩
    obtain ⟨k2, h2, hu2, hm⟩ := max_above lp _ k1 m1 (Nat.le_refl _)
    exact ⟨k2, (g.mem k2).mpr ⟨h2, hm⟩, under_trans (xl.trans (lp k1 m1).symm) ((lp k1 m1).trans (lp k2 h2).symm) hu1 hu2⟩
theorem Outs.uniq {w : Nat} {H : High} {R R' : List (List Int)} {K K' : List High} (o : Outs w H R K) (o' : Outs w H R' K') (e : ∀ x : High, x.length = w → ((∀ r ∈ R, under (rowH r) x = false) ↔ ∀ r ∈ R', under (rowH r) x = false)) : K = K' := by
  have sub : ∀ {R R' : List (List Int)} {K K' : List High}, Outs w H R K → Outs w H R' K' → (∀ x : High, x.length = w → ((∀ r ∈ R, under (rowH r) x = false) ↔ ∀ r ∈ R', under (rowH r) x = false)) → ∀ k ∈ K, k ∈ K' := fun {R R' K K'} o o' e k hk => by
    have lk := o.len k hk
    obtain ⟨k', hk', u1⟩ := o'.all k lk (o.nn k hk) (o.le k hk) ((e k lk).mp (o.out k hk))
    have lk' := o'.len k' hk'
    obtain ⟨k2, hk2, u2⟩ := o.all k' lk' (o'.nn k' hk') (o'.le k' hk') ((e k' lk').mpr (o'.out k' hk'))
    have lk2 := o.len k2 hk2
    have e2 := o.anti k hk k2 hk2 (under_trans (lk.trans lk'.symm) (lk'.trans lk2.symm) u1 u2)
    rw [← e2] at u2
    rw [under_anti (lk.trans lk'.symm) u1 u2]; exact hk'
  exact srtH_uniq o.srt o'.srt fun k => ⟨sub o o' e k, sub o' o (fun x hx => (e x hx).symm) k⟩
theorem Outs.of_least {w : Nat} {H : High} {R L : List (List Int)} {K : List High} (hR : ∀ r ∈ R, r.length = w ∧ ∀ x ∈ r, 0 ≤ x) (hL : Least R L) (o : Outs w H L K) : Outs w H R K := by
  have e : ∀ x : High, x.length = w → ((∀ r ∈ L, under (rowH r) x = false) ↔ ∀ r ∈ R, under (rowH r) x = false) := fun x hx => by
    constructor
    · intro h r hr
      obtain ⟨s, hs, c, ms⟩ := min_below hR r.sum.toNat r hr (by omega)
      cases hc : under (rowH r) x with
      | false => rfl
      | true =>
        rw [cov_under] at c
        have := under_trans (by rw [List.length_map, List.length_map, (hR s hs).1, (hR r hr).1]) (by rw [List.length_map, (hR r hr).1, hx]) c hc
        rw [h s ((hL.mem s).mpr ⟨hs, ms⟩)] at this; cases this
    · intro h r hr
      exact h r ((hL.mem r).mp hr).1
  exact ⟨o.srt, o.anti, o.len, o.nn, o.le, fun k hk => (e k (o.len k hk)).mp (o.out k hk), fun x a b c d => o.all x a b c ((e x a).mpr d)⟩
/-! ### how many they can be -/
def InA : List (List (Option Int)) → High → Prop
  | [], [] => True
  | A :: As, x :: h => x ∈ A ∧ InA As h
  | _, _ => False
def prodA : List (List (Option Int)) → List High
  | [] => [[]]
  | A :: As => A.flatMap fun x => (prodA As).map fun h => x :: h
theorem mem_prodA : ∀ {As : List (List (Option Int))} {h : High}, InA As h → h ∈ prodA As
  | [], [], _ => List.mem_singleton_self _
  | [], _ :: _, h => h.elim
  | _ :: _, [], h => h.elim
  | A :: As, x :: h, ⟨h1, h2⟩ => List.mem_flatMap.mpr ⟨x, h1, List.mem_map_of_mem (mem_prodA h2)⟩
def prodN (As : List (List (Option Int))) : Nat := (As.map List.length).foldr (· * ·) 1
theorem len_flat {α β : Type} {n : Nat} {f : α → List β} (hf : ∀ a, (f a).length = n) : ∀ l : List α, (l.flatMap f).length = l.length * n
  | [] => by simp
  | a :: l => by rw [List.flatMap_cons, List.length_append, hf, len_flat hf l, List.length_cons, Nat.succ_mul]; omega
theorem len_prodA : ∀ As : List (List (Option Int)), (prodA As).length = prodN As
  | [] => rfl
  | A :: As => by
    rw [prodA, len_flat (n := prodN As) fun x => by rw [List.length_map, len_prodA As]]
    rfl
theorem InA.set : ∀ {As : List (List (Option Int))} {h : High} {i : Nat} {v : Option Int}, InA As h → (∀ A : List (Option Int), As[i]? = some A → v ∈ A) → InA As (h.set i v)
  | [], [], _, _, _, _ => True.intro
  | [], _ :: _, _, _, h, _ => h.elim
  | _ :: _, [], _, _, h, _ => h.elim
  | A :: As, x :: h, 0, v, ⟨h1, h2⟩, hv => ⟨hv A rfl, h2⟩
  | A :: As, x :: h, i + 1, v, ⟨h1, h2⟩, hv => ⟨h1, InA.set h2 fun B hB => hv B hB⟩
/-- the entries of r, less by one, are among A -/
def RowA (As : List (List (Option Int))) (r : List Int) : Prop := ∀ (i : Nat) (A : List (Option Int)), As[i]? = some A → r.getD i 0 > 0 → some (r.getD i 0 - 1) ∈ A
theorem parts_in {As : List (List (Option Int))} {h k : High} {r : List Int} (a : InA As h) (b : RowA As r) (hk : k ∈ partsH h r) : InA As k := by
  unfold partsH at hk
  cases hu : under (rowH r) h with
  | false =>
    rw [hu, if_neg Bool.false_ne_true] at hk
    rw [List.mem_singleton.mp hk]; exact a
  | true =>
    rw [hu, if_pos rfl] at hk
    obtain ⟨i, hi, hp, rfl⟩ := mem_parts.mp hk
    exact a.set fun A hA => b i A hA hp
end LV
namespace LV
theorem set_left {x h : High} {i : Nat} {v : Option Int} (l : x.length = h.length) (hu : under x h = true) (hi : ∀ e : Option Int, h[i]? = some e → leB v e = true) : under (x.set i v) h = true := by
  rw [under_at (by rw [List.length_set]; exact l)]
  intro j a b ha hb
  by_cases e : i = j
  · subst e
    rw [List.getElem?_set_self (by have := (List.getElem?_eq_some_iff.mp hb).1; omega)] at ha
    cases ha
    exact hi b hb
  · rw [List.getElem?_set_ne e] at ha
    exact (under_at l).mp hu j a b ha hb
/-- no entry can be raised -/
theorem Outs.raise {w : Nat} {H : High} {R : List (List Int)} {K : List High} (o : Outs w H R K) (lH : H.length = w) {k : High} (hk : k ∈ K) {i : Nat} {e : Int} {y : Option Int} (h1 : k[i]? = some (some e)) (h2 : H[i]? = some y) (ne : some e ≠ y) : (R.all fun r => !under (rowH r) (k.set i (some (e + 1)))) = false := by
  have lk := o.len k hk
  have hlt : i < k.length := (List.getElem?_eq_some_iff.mp h1).1
  apply Bool.eq_false_iff.mpr
  intro ha
  have le1 : under (k.set i (some (e + 1))) H = true := set_left (lk.trans lH.symm) (o.le k hk) fun z hz => by
    rw [h2] at hz; cases hz
    have := (under_at (lk.trans lH.symm)).mp (o.le k hk) i (some e) y h1 h2
    cases y with
    | none => rfl
    | some b =>
      have := of_decide_eq_true this
      have : e ≠ b := fun z => ne (by rw [z])
      exact decide_eq_true (by omega)
  have nn1 : HNn (k.set i (some (e + 1))) := fun x hx j ej => by
    rcases List.mem_or_eq_of_mem_set hx with z | z
    · exact o.nn k hk x z j ej
    · rw [z] at ej; cases ej
      have := o.nn k hk (some e) (List.mem_of_getElem? h1) e rfl
      omega
  obtain ⟨k', hk', u1⟩ := o.all _ (by rw [List.length_set]; exact lk) nn1 le1 fun r hr => by
    have := List.all_eq_true.mp ha r hr
    simpa using this
  have lk' := o.len k' hk'
  have u0 : under k (k.set i (some (e + 1))) = true := set_under rfl (under_refl k) fun z hz => by
    rw [h1] at hz; cases hz
    exact decide_eq_true (by omega)
  have := o.anti k hk k' hk' (under_trans (by rw [List.length_set]) (by rw [List.length_set, lk, lk']) u0 u1)
  rw [← this] at u1
  have := (under_at (by rw [List.length_set])).mp u1 i (some (e + 1)) (some e) (List.getElem?_set_self hlt) h1
  have := of_decide_eq_true this
  omega
/-- a row is under one of them exactly if it is under the high row and covers none of the rows -/
theorem Outs.row {w : Nat} {H : High} {R : List (List Int)} {K : List High} (o : Outs w H R K) (lH : H.length = w) (lR : ∀ r ∈ R, r.length = w) {x : List Int} (lx : x.length = w) (nx : ∀ e ∈ x, 0 ≤ e) : (K.any fun k => under (rowH x) k) = (under (rowH x) H && R.all fun r => !cov x r) := by
  have lx' : (rowH x).length = w := by rw [List.length_map]; exact lx
  rw [Bool.eq_iff_iff, List.any_eq_true, Bool.and_eq_true_iff, List.all_eq_true]
  constructor
  · rintro ⟨k, hk, hu⟩
    have lk := o.len k hk
    refine ⟨under_trans (lx'.trans lk.symm) (lk.trans lH.symm) hu (o.le k hk), fun r hr => ?_⟩
    cases hc : cov x r with
    | false => rfl
    | true =>
      rw [cov_under] at hc
      have := under_trans (by rw [List.length_map, List.length_map, lR r hr, lx]) (lx'.trans lk.symm) hc hu
      rw [o.out k hk r hr] at this; cases this
  · rintro ⟨h1, h2⟩
    refine o.all (rowH x) lx' (fun y hy i e => ?_) h1 fun r hr => ?_
    · obtain ⟨z, hz, rfl⟩ := List.mem_map.mp hy
      cases e
      exact nx _ hz
    · rw [← cov_under]
      simpa using h2 r hr
end LV


set_option Elab.async false
set_option linter.all false
set_option maxRecDepth 100000
set_option maxHeartbeats 2000000
namespace LV
open PySem PySem.Spec L2
def w_is_integer : SW :=
  (wRet [] (wAnd (wIsi .int (wVar 0)) (wNot (wIsi .bl (wVar 0)))))
def w_entries_cover : SW :=
  (wSeq (wFor (.t [2, 3]) (wZip (wCons (wVar 0) (wCons (wVar 1) wNil)))
  (wIf (wB (wOp2 gLt (wVar 2) (wVar 3)))
  (wRet [] (wC (.bl false)))
  wSkip))
  (wRet [] (wC (.bl true))))
def w_high_key : SW :=
  (wRet [] (wBlt gTuple (wCons (wLc (.n 1) (wIt [] (wVar 0)) uYes (wIte (wB (wOp2 gIsN (wVar 1) (wC .non))) (wTup (wCons (wC (.int 1)) (wCons (wC (.int 0)) wNil))) (wTup (wCons (wC (.int 0)) (wCons (wVar 1) wNil)))) [1]) wNil)))
def w_entries_under : SW :=
  (wSeq (wFor (.t [2, 3]) (wZip (wCons (wVar 0) (wCons (wVar 1) wNil)))
  (wIf (wtAnd (wB (wOp2 gIsNotN (wVar 3) (wC .non))) (wtOr (wB (wOp2 gIsN (wVar 2) (wC .non))) (wB (wOp2 gGt (wVar 2) (wVar 3)))))
  (wRet [] (wC (.bl false)))
  wSkip))
  (wRet [] (wC (.bl true))))
def w__law_bag : SW :=
  (wSeq (wSet 1 (wLc (.n 2) (wIt [] (wSl (wVar 0) wNoP (wPt (wC (.int 63))))) uYes (wBlt gInt1 (wCons (wVar 2) wNil)) [2]))
  (wSeq (wSet 3 (wC (.int 0)))
  (wSeq (wSet 4 (wC (.int 7)))
  (wSeq (wFor (.n 2) (wIt [] (wVar 1))
  (wSeq (wSet 4 (wOp2 gMod (wBlt gInt1 (wCons (wOp2 gAdd (wOp2 gAdd (wOp2 gMulT (wVar 4) (wC (.int 31))) (wOp2 gMod (wBlt gInt1 (wCons (wVar 2) wNil)) (wC (.int 1000003)))) (wC (.int 11))) wNil)) (wC (.int 2147483647))))
  (wIf (wtAnd (wB (wOp2 gEq (wVar 3) (wC (.int 0)))) (wB (wOp2 gGe (wBlt gAbs (wCons (wVar 2) wNil)) (wOp2 gPow (wC (.int 10)) (wC (.int 18))))))
  (wSet 3 (wBlt gAbs (wCons (wVar 2) wNil)))
  wSkip)))
  (wRet [] (wLst (wCons (wVar 3) (wCons (wVar 4) (wCons (wC (.int 0)) (wCons (wVar 1) wNil))))))))))
def w__law_take : SW :=
  (wSeq (wSetIx 0 (wOp2 gAdd (wOp2 gIx (wVar 0) (wC (.int 2))) (wC (.int 1))) (wC (.int 2)))
  (wSeq (wIf (wB (wOp2 gGt (wOp2 gIx (wVar 0) (wC (.int 0))) (wC (.int 0))))
  (wSeq (wSet 2 (wOp2 gMod (wBlt gInt1 (wCons (wOp2 gIx (wVar 0) (wC (.int 0))) wNil)) (wVar 1)))
  (wSeq (wSetIx 0 (wOp2 gDiv (wOp2 gIx (wVar 0) (wC (.int 0))) (wVar 1)) (wC (.int 0)))
  (wRet [0] (wVar 2))))
  wSkip)
  (wSeq (wSet 3 (wOp2 gIx (wVar 0) (wC (.int 3))))
  (wSeq (wIf (wtNot (wTru (wVar 3)))
  (wRet [0] (wOp2 gMod (wBlt gInt1 (wCons (wOp2 gIx (wVar 0) (wC (.int 2))) wNil)) (wVar 1)))
  wSkip)
  (wSeq (wSet 4 (wOp2 gIx (wVar 3) (wOp2 gMod (wBlt gInt1 (wCons (wOp2 gIx (wVar 0) (wC (.int 2))) wNil)) (wBlt gLen (wCons (wVar 3) wNil)))))
  (wSeq (wSet 5 (wOp2 gMod (wBlt gInt1 (wCons (wOp2 gAdd (wOp2 gAdd (wOp2 gMulT (wVar 4) (wC (.int 48271))) (wOp2 gMulT (wOp2 gIx (wVar 0) (wC (.int 2))) (wC (.int 69621)))) (wOp2 gIx (wVar 0) (wC (.int 1)))) wNil)) (wC (.int 2147483629))))
  (wSeq (wSet 6 (wOp2 gMod (wBlt gInt1 (wCons (wOp2 gAdd (wOp2 gMulT (wVar 5) (wVar 5)) (wOp2 gIx (wVar 0) (wC (.int 1)))) wNil)) (wC (.int 2147483647))))
  (wSeq (wSet 7 (wOp2 gMod (wBlt gInt1 (wCons (wOp2 gAdd (wOp2 gMulT (wVar 6) (wVar 6)) (wOp2 gIx (wVar 0) (wC (.int 2)))) wNil)) (wC (.int 2147483629))))
  (wRet [0] (wOp2 gMod (wBlt gInt1 (wCons (wOp2 gDiv (wVar 7) (wC (.int 64))) wNil)) (wVar 1)))))))))))
def w__law_is_integer : SW :=
  (wRet [] (wAnd (wIsi .int (wVar 0)) (wNot (wIsi .bl (wVar 0)))))
def w__law_key : SW :=
  (wRet [] (wBlt gTuple (wCons (wLc (.n 1) (wIt [] (wVar 0)) uYes (wIte (wB (wOp2 gIsN (wVar 1) (wC .non))) (wTup (wCons (wC (.int 1)) (wCons (wC (.int 0)) wNil))) (wTup (wCons (wC (.int 0)) (wCons (wVar 1) wNil)))) [1]) wNil)))
def w__law_below : SW :=
  (wSeq (wFor (.n 2) (wRng1 (wCons (wBlt gLen (wCons (wVar 1) wNil)) wNil))
  (wIf (wtAnd (wB (wOp2 gIsNotN (wOp2 gIx (wVar 1) (wVar 2)) (wC .non))) (wtOr (wB (wOp2 gIsN (wOp2 gIx (wVar 0) (wVar 2)) (wC .non))) (wB (wOp2 gGt (wOp2 gIx (wVar 0) (wVar 2)) (wOp2 gIx (wVar 1) (wVar 2))))))
  (wRet [] (wC (.bl false)))
  wSkip))
  (wRet [] (wC (.bl true))))
def w__law_over : SW :=
  (wSeq (wFor (.n 2) (wRng1 (wCons (wBlt gLen (wCons (wVar 1) wNil)) wNil))
  (wIf (wB (wOp2 gLt (wOp2 gIx (wVar 0) (wVar 2)) (wOp2 gIx (wVar 1) (wVar 2))))
  (wRet [] (wC (.bl false)))
  wSkip))
  (wRet [] (wC (.bl true))))
def w__law_keeps_out : SW :=
  (wSeq (wFor (.n 2) (wRng1 (wCons (wBlt gLen (wCons (wVar 1) wNil)) wNil))
  (wIf (wtAnd (wB (wOp2 gIsNotN (wOp2 gIx (wVar 0) (wVar 2)) (wC .non))) (wB (wOp2 gLt (wOp2 gIx (wVar 0) (wVar 2)) (wOp2 gIx (wVar 1) (wVar 2)))))
  (wRet [] (wC (.bl true)))
  wSkip))
  (wRet [] (wC (.bl false))))
def w__law_values : SW :=
  (wSeq (wSet 3 (wOp2 gAdd (wLst (wCons (wC (.int 0)) wNil)) (wOp2 gIx (wVar 0) (wVar 2))))
  (wSeq (wIf (wtAnd (wB (wOp2 gLt (wBlt gLen (wCons (wVar 0) wNil)) (wC (.int 5)))) (wtAnd (wB (wOp2 gIsNotN (wOp2 gIx (wVar 1) (wVar 2)) (wC .non))) (wB (wOp2 gNotIn (wOp2 gAdd (wOp2 gIx (wVar 1) (wVar 2)) (wC (.int 1))) (wVar 3)))))
  (wApp 3 (wOp2 gAdd (wOp2 gIx (wVar 1) (wVar 2)) (wC (.int 1))))
  wSkip)
  (wRet [] (wVar 3))))
def w__law_odd : SW :=
  (wSeq (wIf (wB (wOp2 gEq (wVar 2) (wC (.int 0))))
  (wRet [] (wBlt gList (wCons (wVar 0) wNil)))
  wSkip)
  (wSeq (wIf (wB (wOp2 gLt (wVar 2) (wC (.int 6))))
  (wSeq (wSet 3 (wLst (wCons (wTup (wCons (wNeg (wC (.int 1))) wNil)) (wCons (wTup (wCons (wC (.bl true)) wNil)) (wCons (wTup (wCons (wC .non) wNil)) (wCons (wTup (wCons (wC (.str "1")) wNil)) (wCons (wTup (wCons (wTup (wCons (wC (.int 0)) wNil)) wNil)) wNil)))))))
  (wRet [] (wOp2 gAdd (wOp2 gAdd (wSl (wVar 0) wNoP (wPt (wVar 1))) (wOp2 gIx (wVar 3) (wOp2 gSub (wVar 2) (wC (.int 1))))) (wSl (wVar 0) (wPt (wOp2 gAdd (wVar 1) (wC (.int 1)))) wNoP))))
  wSkip)
  (wSeq (wIf (wB (wOp2 gEq (wVar 2) (wC (.int 6))))
  (wRet [] (wOp2 gAdd (wVar 0) (wTup (wCons (wC (.int 0)) wNil))))
  wSkip)
  (wSeq (wIf (wB (wOp2 gEq (wVar 2) (wC (.int 7))))
  (wRet [] (wSl (wVar 0) wNoP (wPt (wNeg (wC (.int 1))))))
  wSkip)
  (wSeq (wIf (wB (wOp2 gEq (wVar 2) (wC (.int 8))))
  (wRet [] (wTup wNil))
  wSkip)
  (wSeq (wIf (wB (wOp2 gEq (wVar 2) (wC (.int 9))))
  (wRet [] (wTup (wCons (wC (.int 0)) (wCons (wC (.int 0)) (wCons (wC (.int 0)) (wCons (wC (.int 0)) (wCons (wC (.int 0)) (wCons (wC (.int 0)) (wCons (wC (.int 0)) (wCons (wC (.int 0)) (wCons (wC (.int 0)) wNil)))))))))))
  wSkip)
  (wSeq (wIf (wB (wOp2 gEq (wVar 2) (wC (.int 10))))
  (wRet [] (wC .non))
  wSkip)
  (wSeq (wIf (wB (wOp2 gEq (wVar 2) (wC (.int 11))))
  (wRet [] (wC (.str "")))
  wSkip)
  (wRet [] (wC (.int 5)))))))))))
def w_is_row (S_is_integer : FSpec) : SW :=
  (wSeq (wIf (wtNot (wTru (wIsi .tup (wVar 0))))
  (wRet [] (wC (.bl false)))
  wSkip)
  (wSeq (wIf (wtNot (wB (wChain gLe gLe (wC (.int 1)) (wBlt gLen (wCons (wVar 0) wNil)) (wC (.int 8)))))
  (wRet [] (wC (.bl false)))
  wSkip)
  (wSeq (wIf (wtAnd (wB (wOp2 gIsNotN (wVar 1) (wC .non))) (wB (wOp2 gNe (wBlt gLen (wCons (wVar 0) wNil)) (wVar 1))))
  (wRet [] (wC (.bl false)))
  wSkip)
  (wSeq (wFor (.n 2) (wIt [] (wVar 0))
  (wIf (wtOr (wtNot (wTru (wCall S_is_integer (wCons (wFrz (wVar 2)) wNil)))) (wB (wOp2 gLt (wVar 2) (wC (.int 0)))))
  (wRet [] (wC (.bl false)))
  wSkip))
  (wRet [] (wC (.bl true)))))))
def w_covers_some (S_entries_cover : FSpec) : SW :=
  (wSeq (wFor (.n 2) (wIt [1] (wVar 1))
  (wIf (wTru (wCall S_entries_cover (wCons (wFrz (wVar 0)) (wCons (wFrz (wVar 2)) wNil))))
  (wRet [1] (wC (.bl true)))
  wSkip))
  (wRet [1] (wC (.bl false))))
def w_is_high (S_is_integer : FSpec) : SW :=
  (wSeq (wIf (wtNot (wTru (wIsi .tup (wVar 0))))
  (wRet [] (wC (.bl false)))
  wSkip)
  (wSeq (wIf (wtNot (wB (wChain gLe gLe (wC (.int 1)) (wBlt gLen (wCons (wVar 0) wNil)) (wC (.int 8)))))
  (wRet [] (wC (.bl false)))
  wSkip)
  (wSeq (wIf (wtAnd (wB (wOp2 gIsNotN (wVar 1) (wC .non))) (wB (wOp2 gNe (wBlt gLen (wCons (wVar 0) wNil)) (wVar 1))))
  (wRet [] (wC (.bl false)))
  wSkip)
  (wSeq (wFor (.n 2) (wIt [] (wVar 0))
  (wIf (wtAnd (wB (wOp2 gIsNotN (wVar 2) (wC .non))) (wtOr (wtNot (wTru (wCall S_is_integer (wCons (wFrz (wVar 2)) wNil)))) (wB (wOp2 gLt (wVar 2) (wC (.int 0))))))
  (wRet [] (wC (.bl false)))
  wSkip))
  (wRet [] (wC (.bl true)))))))
def w_under_some (S_entries_under : FSpec) : SW :=
  (wSeq (wFor (.n 2) (wIt [1] (wVar 1))
  (wIf (wTru (wCall S_entries_under (wCons (wFrz (wVar 0)) (wCons (wFrz (wVar 2)) wNil))))
  (wRet [1] (wC (.bl true)))
  wSkip))
  (wRet [1] (wC (.bl false))))
def w_parts_outside (S_entries_under : FSpec) : SW :=
  (wSeq (wIf (wtNot (wTru (wCall S_entries_under (wCons (wFrz (wVar 1)) (wCons (wFrz (wVar 0)) wNil)))))
  (wRet [] (wLst (wCons (wVar 0) wNil)))
  wSkip)
  (wSeq (wSet 2 (wLst wNil))
  (wSeq (wFor (.t [3, 4]) (wEnum (wCons (wVar 1) wNil))
  (wIf (wB (wOp2 gGt (wVar 4) (wC (.int 0))))
  (wApp 2 (wOp2 gAdd (wOp2 gAdd (wSl (wVar 0) wNoP (wPt (wVar 3))) (wTup (wCons (wOp2 gSub (wVar 4) (wC (.int 1))) wNil))) (wSl (wVar 0) (wPt (wOp2 gAdd (wVar 3) (wC (.int 1)))) wNoP)))
  wSkip))
  (wRet [] (wVar 2)))))
def w__law_is_high (S__law_is_integer : FSpec) : SW :=
  (wSeq (wIf (wtOr (wtNot (wTru (wIsi .tup (wVar 0)))) (wB (wOp2 gNe (wBlt gLen (wCons (wVar 0) wNil)) (wVar 1))))
  (wRet [] (wC (.bl false)))
  wSkip)
  (wRet [] (wBlt gAll (wCons (wLc (.n 2) (wIt [] (wVar 0)) uYes (wOr (wOp2 gIsN (wVar 2) (wC .non)) (wAnd (wCall S__law_is_integer (wCons (wFrz (wVar 2)) wNil)) (wOp2 gGe (wVar 2) (wC (.int 0))))) [2]) wNil))))
def w__law_levels (S__law_take : FSpec) : SW :=
  (wSeq (wSet 2 (wLst wNil))
  (wSeq (wFor (.n 3) (wRng1 (wCons (wVar 1) wNil))
  (wSeq (wSet 4 (wOp2 gIx (wLst (wCons (wC (.int 5)) (wCons (wC (.int 4)) (wCons (wC (.int 3)) (wCons (wC (.int 2)) (wCons (wC (.int 1)) (wCons (wC (.int 1)) (wCons (wC (.int 1)) (wCons (wC (.int 1)) wNil))))))))) (wOp2 gSub (wVar 1) (wC (.int 1)))))
  (wSeq (wSet 5 (wLst wNil))
  (wSeq (wSet 6 (wC (.int 0)))
  (wSeq (wFor (.n 7) (wRng1 (wCons (wVar 4) wNil))
  (wSeq (wSet 6 (wOp2 gAdd (wOp2 gAdd (wVar 6) (wC (.int 1))) (wCall S__law_take (wCons (wVar 0) (wCons (wC (.int 3)) wNil)))))
  (wApp 5 (wVar 6))))
  (wSeq (wIf (wB (wOp2 gEq (wCall S__law_take (wCons (wVar 0) (wCons (wC (.int 8)) wNil))) (wC (.int 7))))
  (wSetIx 5 (wOp2 gAdd (wOp2 gAdd (wOp2 gIx (wVar 5) (wOp2 gSub (wVar 4) (wC (.int 1)))) (wOp2 gPow (wC (.int 10)) (wC (.int 28)))) (wCall S__law_take (wCons (wVar 0) (wCons (wFrz (wOp2 gMulT (wC (.int 9)) (wOp2 gPow (wC (.int 10)) (wC (.int 29))))) wNil)))) (wOp2 gSub (wVar 4) (wC (.int 1))))
  wSkip)
  (wApp 2 (wVar 5))))))))
  (wRet [0] (wVar 2))))
def w__law_high (S__law_take : FSpec) : SW :=
  (wSeq (wSet 2 (wLst wNil))
  (wSeq (wFor (.n 3) (wIt [0] (wVar 1))
  (wSeq (wSet 4 (wCall S__law_take (wCons (wVar 0) (wCons (wC (.int 6)) wNil))))
  (wSeq (wSet 5 (wOp2 gIx (wVar 3) (wCall S__law_take (wCons (wVar 0) (wCons (wFrz (wBlt gLen (wCons (wVar 3) wNil))) wNil)))))
  (wApp 2 (wOp2 gIx (wLst (wCons (wC .non) (wCons (wC .non) (wCons (wC .non) (wCons (wVar 5) (wCons (wOp2 gSub (wVar 5) (wC (.int 1))) (wCons (wC (.int 0)) wNil))))))) (wVar 4))))))
  (wRet [0] (wBlt gTuple (wCons (wVar 2) wNil)))))
def w__law_rows (S__law_take : FSpec) : SW :=
  (wSeq (wSet 2 (wLst wNil))
  (wSeq (wFor (.n 3) (wRng1 (wCons (wCall S__law_take (wCons (wVar 0) (wCons (wC (.int 7)) wNil))) wNil))
  (wSeq (wIf (wtOr (wB (wOp2 gEq (wVar 3) (wC (.int 0)))) (wB (wOp2 gEq (wCall S__law_take (wCons (wVar 0) (wCons (wC (.int 2)) wNil))) (wC (.int 0)))))
  (wSet 4 (wLc (.n 6) (wIt [0] (wVar 1)) uYes (wOp2 gIx (wOp2 gAdd (wLst (wCons (wC (.int 0)) wNil)) (wVar 6)) (wCall S__law_take (wCons (wVar 0) (wCons (wFrz (wOp2 gAdd (wC (.int 1)) (wBlt gLen (wCons (wVar 6) wNil)))) wNil)))) [6]))
  (wSeq (wSet 4 (wBlt gList (wCons (wOp2 gIx (wVar 2) (wCall S__law_take (wCons (wVar 0) (wCons (wFrz (wVar 3)) wNil)))) wNil)))
  (wSeq (wSet 5 (wCall S__law_take (wCons (wVar 0) (wCons (wFrz (wBlt gLen (wCons (wVar 1) wNil))) wNil))))
  (wSetIx 4 (wOp2 gIx (wOp2 gAdd (wLst (wCons (wC (.int 0)) wNil)) (wOp2 gIx (wVar 1) (wVar 5))) (wCall S__law_take (wCons (wVar 0) (wCons (wFrz (wOp2 gAdd (wC (.int 1)) (wBlt gLen (wCons (wOp2 gIx (wVar 1) (wVar 5)) wNil)))) wNil)))) (wVar 5)))))
  (wApp 2 (wBlt gTuple (wCons (wVar 4) wNil)))))
  (wRet [0] (wVar 2))))
def w__law_drawn (S__law_take : FSpec) : SW :=
  (wSeq (wSet 2 (wLst wNil))
  (wSeq (wFor (.n 3) (wIt [0] (wVar 1))
  (wSeq (wSet 4 (wOp2 gIx (wVar 3) (wCall S__law_take (wCons (wVar 0) (wCons (wFrz (wBlt gLen (wCons (wVar 3) wNil))) wNil)))))
  (wSeq (wSet 5 (wCall S__law_take (wCons (wVar 0) (wCons (wC (.int 5)) wNil))))
  (wSeq (wSet 6 (wCall S__law_take (wCons (wVar 0) (wCons (wC (.int 4)) wNil))))
  (wIf (wB (wOp2 gEq (wVar 5) (wC (.int 4))))
  (wApp 2 (wCall S__law_take (wCons (wVar 0) (wCons (wFrz (wOp2 gPow (wC (.int 10)) (wC (.int 30)))) wNil))))
  (wApp 2 (wBlt gMax2 (wCons (wOp2 gAdd (wVar 4) (wOp2 gIx (wLst (wCons (wVar 6) (wCons (wOp2 gSub (wC (.int 0)) (wVar 6)) (wCons (wC (.int 0)) (wCons (wOp2 gSub (wC (.int 0)) (wVar 4)) wNil))))) (wVar 5))) (wCons (wC (.int 0)) wNil)))))))))
  (wRet [0] (wBlt gTuple (wCons (wVar 2) wNil)))))
def w__law_good (S__law_below S__law_keeps_out : FSpec) : SW :=
  (wSeq (wIf (wtNot (wTru (wCall S__law_below (wCons (wFrz (wVar 0)) (wCons (wFrz (wVar 1)) wNil)))))
  (wRet [] (wC (.bl false)))
  wSkip)
  (wSeq (wFor (.n 3) (wIt [] (wVar 2))
  (wIf (wtNot (wTru (wCall S__law_keeps_out (wCons (wFrz (wVar 0)) (wCons (wFrz (wVar 3)) wNil)))))
  (wRet [] (wC (.bl false)))
  wSkip))
  (wSeq (wFor (.n 4) (wRng1 (wCons (wBlt gLen (wCons (wVar 1) wNil)) wNil))
  (wIf (wtAnd (wB (wOp2 gIsNotN (wOp2 gIx (wVar 0) (wVar 4)) (wC .non))) (wB (wOp2 gNe (wOp2 gIx (wVar 0) (wVar 4)) (wOp2 gIx (wVar 1) (wVar 4)))))
  (wSeq (wSet 5 (wOp2 gAdd (wOp2 gAdd (wSl (wVar 0) wNoP (wPt (wVar 4))) (wTup (wCons (wOp2 gAdd (wOp2 gIx (wVar 0) (wVar 4)) (wC (.int 1))) wNil))) (wSl (wVar 0) (wPt (wOp2 gAdd (wVar 4) (wC (.int 1)))) wNoP)))
  (wIf (wTru (wBlt gAll (wCons (wLc (.n 3) (wIt [] (wVar 2)) uYes (wCall S__law_keeps_out (wCons (wFrz (wVar 5)) (wCons (wFrz (wVar 3)) wNil))) [3]) wNil)))
  (wRet [] (wC (.bl false)))
  wSkip))
  wSkip))
  (wRet [] (wC (.bl true))))))
def w__law_cube (S__law_values : FSpec) : SW :=
  (wSeq (wSet 2 (wLst (wCons (wTup wNil) wNil)))
  (wSeq (wFor (.n 3) (wRng1 (wCons (wBlt gLen (wCons (wVar 0) wNil)) wNil))
  (wSeq (wSet 4 (wLst wNil))
  (wSeq (wFor (.n 5) (wIt [] (wVar 2))
  (wFor (.n 6) (wIt [] (wCall S__law_values (wCons (wFrz (wVar 0)) (wCons (wFrz (wVar 1)) (wCons (wFrz (wVar 3)) wNil)))))
  (wApp 4 (wOp2 gAdd (wVar 5) (wTup (wCons (wVar 6) wNil))))))
  (wSet 2 (wVar 4)))))
  (wRet [] (wVar 2))))
def w__law_outside (S__law_below S__law_over : FSpec) : SW :=
  (wSeq (wSet 4 (wCall S__law_below (wCons (wFrz (wVar 3)) (wCons (wFrz (wVar 1)) wNil))))
  (wSeq (wFor (.n 5) (wIt [] (wVar 2))
  (wIf (wtAnd (wTru (wVar 4)) (wTru (wCall S__law_over (wCons (wFrz (wVar 3)) (wCons (wFrz (wVar 5)) wNil)))))
  (wSet 4 (wC (.bl false)))
  wSkip))
  (wSeq (wFor (.n 6) (wIt [] (wVar 0))
  (wIf (wTru (wCall S__law_below (wCons (wFrz (wVar 3)) (wCons (wFrz (wVar 6)) wNil))))
  (wRet [] (wVar 4))
  wSkip))
  (wRet [] (wNot (wVar 4))))))
def w_check_row (S_is_row : FSpec) : SW :=
  (wIf (wtNot (wTru (wCall S_is_row (wCons (wFrz (wVar 0)) (wCons (wFrz (wVar 1)) wNil)))))
  (wRaise1 "InvalidRow" "value" (wCons (wVar 0) wNil))
  wSkip)
def w_least_among (S_covers_some : FSpec) : SW :=
  (wSeq (wSet 1 (wLst wNil))
  (wSeq (wFor (.n 2) (wIt [] (wSortT (wVar 0)))
  (wIf (wtNot (wTru (wCall S_covers_some (wCons (wFrz (wVar 2)) (wCons (wVar 1) wNil)))))
  (wApp 1 (wVar 2))
  wSkip))
  (wRet [] (wVar 1))))
def w_check_high (S_is_high : FSpec) : SW :=
  (wIf (wtNot (wTru (wCall S_is_high (wCons (wFrz (wVar 0)) (wCons (wFrz (wVar 1)) wNil)))))
  (wRaise1 "InvalidRow" "value" (wCons (wVar 0) wNil))
  wSkip)
def w__law_shaped (S__law_is_high S__law_key S__law_good : FSpec) : SW :=
  (wSeq (wIf (wtOr (wtNot (wTru (wIsi .lst (wVar 0)))) (wtNot (wTru (wBlt gAll (wCons (wLc (.n 3) (wIt [] (wVar 0)) uYes (wCall S__law_is_high (wCons (wFrz (wVar 3)) (wCons (wFrz (wBlt gLen (wCons (wVar 1) wNil))) wNil))) [3]) wNil)))))
  (wRet [] (wC (.bl false)))
  wSkip)
  (wSeq (wFor (.n 4) (wRng2 (wCons (wC (.int 1)) (wCons (wBlt gLen (wCons (wVar 0) wNil)) wNil)))
  (wIf (wB (wOp2 gGeK (wCall S__law_key (wCons (wFrz (wOp2 gIx (wVar 0) (wOp2 gSub (wVar 4) (wC (.int 1))))) wNil)) (wCall S__law_key (wCons (wFrz (wOp2 gIx (wVar 0) (wVar 4))) wNil))))
  (wRet [] (wC (.bl false)))
  wSkip))
  (wRet [] (wBlt gAll (wCons (wLc (.n 3) (wIt [] (wVar 0)) uYes (wCall S__law_good (wCons (wFrz (wVar 3)) (wCons (wFrz (wVar 1)) (wCons (wFrz (wVar 2)) wNil)))) [3]) wNil)))))
def w_check_rows (S_check_row : FSpec) : SW :=
  (wSeq (wSet 1 (wC .non))
  (wFor (.n 2) (wIt [] (wVar 0))
  (wSeq (wExp (wCall S_check_row (wCons (wFrz (wVar 2)) (wCons (wFrz (wVar 1)) wNil))))
  (wSet 1 (wBlt gLen (wCons (wVar 2) wNil))))))
def w_greatest_among (S_high_key S_under_some : FSpec) : SW :=
  (wSeq (wSet 2 wDct0)
  (wSeq (wFor (.n 3) (wIt [] (wVar 0))
  (wSetKey 2 (wC (.bl true)) (wVar 3)))
  (wSeq (wSet 4 (wLst wNil))
  (wSeq (wFor (.n 3) (wIt [] (wSortK S_high_key true (wBlt gListD (wCons (wVar 2) wNil))))
  (wIf (wtNot (wTru (wCall S_under_some (wCons (wFrz (wVar 3)) (wCons (wVar 4) wNil)))))
  (wSeq (wApp 4 (wVar 3))
  (wIf (wtAnd (wB (wOp2 gIsNotN (wVar 1) (wC .non))) (wB (wOp2 gGt (wBlt gLen (wCons (wVar 4) wNil)) (wVar 1))))
  wNever
  wSkip))
  wSkip))
  (wRet [] (wRevS (wVar 4)))))))
def w_least_of (S_check_rows S_least_among : FSpec) : SW :=
  (wSeq (wExp (wCall S_check_rows (wCons (wFrz (wVar 0)) wNil)))
  (wRet [] (wCall S_least_among (wCons (wFrz (wVar 0)) wNil))))
def w_highs_outside (S_check_high S_check_row S_least_of S_parts_outside S_greatest_among : FSpec) : SW :=
  (wSeq (wExp (wCall S_check_high (wCons (wFrz (wVar 0)) (wCons (wC .non) wNil))))
  (wSeq (wFor (.n 2) (wIt [] (wVar 1))
  (wExp (wCall S_check_row (wCons (wFrz (wVar 2)) (wCons (wFrz (wBlt gLen (wCons (wVar 0) wNil))) wNil)))))
  (wSeq (wSet 3 (wLst (wCons (wVar 0) wNil)))
  (wSeq (wFor (.n 2) (wIt [] (wCall S_least_of (wCons (wFrz (wVar 1)) wNil)))
  (wSet 3 (wCall S_greatest_among (wCons (wFrz (wLc2 (.n 4) (wIt [] (wVar 3)) (.n 5) (wIt [] (wCall S_parts_outside (wCons (wFrz (wVar 4)) (wCons (wFrz (wVar 2)) wNil)))) (wVar 5) [4, 5] [5])) (wCons (wFrz (wC (.int 1000))) wNil)))))
  (wRet [] (wVar 3))))))
def w__law_again (S_highs_outside : FSpec) : SW :=
  (wSeq (wSet 3 (wBlt gList (wCons (wVar 2) wNil)))
  (wSeq (wSet 4 (wBlt gList (wCons (wVar 1) wNil)))
  (wSeq (wSet 5 (wCall S_highs_outside (wCons (wFrz (wVar 0)) (wCons (wFrz (wVar 4)) wNil))))
  (wSeq (wApp 5 (wC .non))
  (wSeq (wIf (wtOr (wB (wOp2 gNe (wVar 4) (wVar 1))) (wtOr (wB (wOp2 gNe (wCall S_highs_outside (wCons (wFrz (wVar 0)) (wCons (wFrz (wVar 4)) wNil))) (wVar 3))) (wB (wOp2 gNe (wCall S_highs_outside (wCons (wFrz (wVar 0)) (wCons (wFrz (wLst wNil)) wNil))) (wLst (wCons (wVar 0) wNil))))))
  (wRet [] (wC (.bl false)))
  wSkip)
  (wRet [] (wOp2 gEq (wCall S_highs_outside (wCons (wFrz (wVar 0)) (wCons (wFrz (wOp2 gAdd (wRevS (wVar 1)) (wVar 1))) wNil))) (wVar 3))))))))
def w__law_refused (S_highs_outside : FSpec) : SW :=
  (wSeq (wTryAs (wExp (wCall S_highs_outside (wCons (wFrz (wVar 0)) (wCons (wFrz (wVar 1)) wNil)))) (ctb [("InvalidRow", true)]) 2
  (wRet [] (wLst (wCons (wC (.str "refused")) (wCons (wBlt gRepr (wCons (wExA 2 "InvalidRow" "value") wNil)) wNil)))))
  (wRet [] (wLst (wCons (wC (.str "let")) (wCons (wC (.str "")) wNil)))))
def w__law_refusals (S__law_take S__law_odd S__law_refused : FSpec) : SW :=
  (wSeq (wSet 3 (wBlt gLen (wCons (wVar 1) wNil)))
  (wSeq (wSet 4 (wOp2 gIx (wOp2 gAdd (wVar 2) (wLst (wCons (wOp2 gMulT (wTup (wCons (wC (.int 1)) wNil)) (wVar 3)) wNil))) (wC (.int 0))))
  (wSeq (wSet 5 (wCall S__law_take (wCons (wVar 0) (wCons (wFrz (wVar 3)) wNil))))
  (wSeq (wSet 6 (wCall S__law_take (wCons (wVar 0) (wCons (wFrz (wOp2 gAdd (wBlt gLen (wCons (wVar 2) wNil)) (wC (.int 1)))) wNil))))
  (wSeq (wFor (.n 7) (wRng1 (wCons (wC (.int 13)) wNil))
  (wSeq (wSet 8 (wCall S__law_odd (wCons (wFrz (wVar 4)) (wCons (wFrz (wVar 5)) (wCons (wFrz (wVar 7)) wNil)))))
  (wIf (wB (wOp2 gNeS (wCall S__law_refused (wCons (wFrz (wVar 1)) (wCons (wFrz (wOp2 gAdd (wOp2 gAdd (wOp2 gAdd (wSl (wVar 2) wNoP (wPt (wVar 6))) (wLst (wCons (wVar 8) wNil))) (wSl (wVar 2) (wPt (wVar 6)) wNoP)) (wLst (wCons (wC .non) wNil)))) wNil))) (wLst (wCons (wC (.str "refused")) (wCons (wBlt gRepr (wCons (wVar 8) wNil)) wNil)))))
  (wRet [0] (wC (.bl false)))
  wSkip)))
  (wSeq (wSet 9 (wLst (wCons (wOp2 gAdd (wOp2 gAdd (wSl (wVar 1) wNoP (wPt (wVar 5))) (wTup (wCons (wNeg (wC (.int 1))) wNil))) (wSl (wVar 1) (wPt (wOp2 gAdd (wVar 5) (wC (.int 1)))) wNoP)) (wCons (wOp2 gAdd (wOp2 gAdd (wSl (wVar 1) wNoP (wPt (wVar 5))) (wTup (wCons (wC (.bl false)) wNil))) (wSl (wVar 1) (wPt (wOp2 gAdd (wVar 5) (wC (.int 1)))) wNoP)) (wCons (wBlt gList (wCons (wVar 1) wNil)) wNil)))))
  (wSeq (wSet 9 (wOp2 gAdd (wVar 9) (wLst (wCons (wTup wNil) (wCons (wOp2 gMulT (wTup (wCons (wC .non) wNil)) (wC (.int 9))) (wCons (wC .non) (wCons (wC (.int 5)) (wCons (wOp2 gAdd (wOp2 gAdd (wSl (wVar 1) wNoP (wPt (wVar 5))) (wTup (wCons (wC (.str "1")) wNil))) (wSl (wVar 1) (wPt (wOp2 gAdd (wVar 5) (wC (.int 1)))) wNoP)) wNil))))))))
  (wSeq (wFor (.n 8) (wIt [0] (wVar 9))
  (wIf (wtOr (wB (wOp2 gNeS (wCall S__law_refused (wCons (wFrz (wVar 8)) (wCons (wFrz (wLst (wCons (wC .non) wNil))) wNil))) (wLst (wCons (wC (.str "refused")) (wCons (wBlt gRepr (wCons (wVar 8) wNil)) wNil))))) (wB (wOp2 gNeS (wCall S__law_refused (wCons (wFrz (wVar 8)) (wCons (wFrz (wVar 2)) wNil))) (wLst (wCons (wC (.str "refused")) (wCons (wBlt gRepr (wCons (wVar 8) wNil)) wNil))))))
  (wRet [0] (wC (.bl false)))
  wSkip))
  (wRet [0] (wC (.bl true)))))))))))
def w_law (S__law_bag S__law_take S__law_levels S__law_high S__law_rows S__law_drawn S_highs_outside S__law_outside S__law_shaped S__law_cube S__law_refusals S__law_again : FSpec) : SW :=
  (wSeq (wSet 1 (wCall S__law_bag (wCons (wFrz (wVar 0)) wNil)))
  (wSeq (wSet 2 (wCall S__law_levels (wCons (wVar 1) (wCons (wFrz (wOp2 gAdd (wC (.int 1)) (wCall S__law_take (wCons (wVar 1) (wCons (wC (.int 8)) wNil))))) wNil))))
  (wSeq (wSet 3 (wCall S__law_high (wCons (wVar 1) (wCons (wFrz (wVar 2)) wNil))))
  (wSeq (wSet 4 (wCall S__law_rows (wCons (wVar 1) (wCons (wFrz (wVar 2)) wNil))))
  (wSeq (wSet 5 (wCall S__law_drawn (wCons (wVar 1) (wCons (wFrz (wVar 2)) wNil))))
  (wSeq (wSet 6 (wCall S_highs_outside (wCons (wFrz (wVar 3)) (wCons (wFrz (wBlt gList (wCons (wVar 4) wNil))) wNil))))
  (wSeq (wIf (wtOr (wtNot (wTru (wCall S__law_shaped (wCons (wFrz (wVar 6)) (wCons (wFrz (wVar 3)) (wCons (wFrz (wVar 4)) wNil)))))) (wtNot (wTru (wCall S__law_outside (wCons (wFrz (wVar 6)) (wCons (wFrz (wVar 3)) (wCons (wFrz (wVar 4)) (wCons (wFrz (wVar 5)) wNil))))))))
  (wRet [] (wC (.bl false)))
  wSkip)
  (wSeq (wFor (.n 7) (wIt [] (wCall S__law_cube (wCons (wFrz (wVar 2)) (wCons (wFrz (wVar 3)) wNil))))
  (wIf (wtNot (wTru (wCall S__law_outside (wCons (wFrz (wVar 6)) (wCons (wFrz (wVar 3)) (wCons (wFrz (wVar 4)) (wCons (wFrz (wVar 7)) wNil)))))))
  (wRet [] (wC (.bl false)))
  wSkip))
  (wRet [] (wAnd (wCall S__law_again (wCons (wFrz (wVar 3)) (wCons (wFrz (wVar 4)) (wCons (wFrz (wVar 6)) wNil)))) (wCall S__law_refusals (wCons (wVar 1) (wCons (wFrz (wVar 3)) (wCons (wFrz (wVar 4)) wNil))))))))))))))
end LV


set_option Elab.async false
set_option linter.all false
set_option maxRecDepth 100000
set_option maxHeartbeats 400000
set_option exponentiation.threshold 10000
namespace LV
open PySem PySem.Spec L2
open PySem.W (dataLt dataLe AllAlike Sortable alike alikeAll dataLt_cons dataLt_tuple dataLt_ii keyToksAll)
open PyProof.Rows (itemOrd lex_irrefl)
/-! ### is_integer -/
def isInt : D → Bool
  | .int _ => true
  | _ => false
def S_is_integer : FSpec := fun args Q _ => ∃ d, args = [.fz d] ∧ d.plain = true ∧ Q (.fz (.bl (isInt d))) args
theorem mS_is_integer : MonoF S_is_integer := ⟨fun h _ ⟨d, a, b, q⟩ => ⟨d, a, b, h _ _ q⟩⟩
theorem kp_is_integer : Keeps S_is_integer [] 1 1 w_is_integer where
  fit := fun args Q E ⟨d, a, _⟩ => a ▸ fit1
  run := fun args Q E ⟨d, a, ht, q⟩ => by
    subst a
    unfold w_is_integer
    walk_at "lv"
    cases d <;> simp [D.ty, isInt, isaT] at ht q ⊢ <;> first | exact q | exact ⟨_, rfl, q⟩ | cases ht
/-! ### is_row, check_row -/
def entOk : D → Bool
  | .int i => decide (0 ≤ i)
  | _ => false
def wOk (n : Nat) : D → Bool
  | .int k => decide ((n : Int) = k)
  | _ => true
def isRowD (v w : D) : Bool := match v with
  | .tup ds => decide (1 ≤ ds.length) && decide (ds.length ≤ 8) && wOk ds.length w && ds.all entOk
  | _ => false
def WidOk (w : D) : Prop := w = .non ∨ ∃ k, w = .int k
def S_is_row : FSpec := fun args Q _ => ∃ v w, args = [.fz v, .fz w] ∧ v.plain = true ∧ WidOk w ∧ Q (.fz (.bl (isRowD v w))) args
theorem mS_is_row : MonoF S_is_row := ⟨fun h _ ⟨d, w, a, b, c, q⟩ => ⟨d, w, a, b, c, h _ _ q⟩⟩
theorem lp_is_row (K : Ks) (a b : Option Val) : ∀ (l : List D) (o : Option Val), plainL l = true → (l.all entOk = true → ∀ o, K.nx [a, b, o]) → (l.all entOk = false → ∀ o, K.rt (.fz (.bl false)) [a, b, o]) →
    loopW (.n 2) (wIf (wtOr (wtNot (wTru (wCall S_is_integer (wCons (wFrz (wVar 2)) wNil)))) (wB (wOp2 gLt (wVar 2) (wC (.int 0))))) (wRet [] (wC (.bl false))) wSkip) yesK K l [a, b, o]
  | [], o, _, h, _ => ⟨True.intro, h rfl _⟩
  | d :: l, o, hp, h, h' => by
    obtain ⟨hp1, hp2⟩ := Bool.and_eq_true_iff.mp hp
    walk_at "lv"
    simp only [S_is_integer]
    walk_at "lv"
    refine ⟨hp1, ?_⟩
    cases d <;> simp only [isInt, Bool.not_true, Bool.not_false, if_true, Bool.false_eq_true, if_false] <;> try exact h' rfl _
    walk_at "lv"
    rename_i i
    by_cases hi : i < 0
    · rw [if_pos (decide_eq_true hi)]
      exact h' (by rw [List.all_cons, entOk, decide_eq_false (by omega), Bool.false_and]) _
    · rw [if_neg (by simpa using hi)]
      have e : (D.int i :: l).all entOk = l.all entOk := by rw [List.all_cons, entOk, decide_eq_true (by omega), Bool.true_and]
      rw [e] at h h'
      exact lp_is_row K a b l _ hp2 h h'
theorem kp_is_row : Keeps S_is_row [] 2 3 (w_is_row S_is_integer) where
  fit := fun args Q E ⟨xs, ys, a, _⟩ => a ▸ fit2
  run := fun args Q E ⟨v, w, a, hv, hw, q⟩ => by
    subst a
    unfold w_is_row
    walk_at "lv"
    obtain ⟨t, ht⟩ := plain_ty hv
    refine ⟨t, ht, ?_⟩
    cases v <;> simp only [D.ty, Option.some.injEq, reduceCtorEq] at ht <;> subst ht <;> simp only [isaT, decide_true, decide_false, Bool.not_true, Bool.not_false, if_true, reduceCtorEq, Bool.false_eq_true, if_false] <;> try exact q
    rename_i ds _
    have hp : plainL ds = true := hv
    walk_at "lv"
    refine iteB (fun h1 => ?_) (fun h1 => ?_)
    case refine_2 =>
      have h1 := of_decide_eq_false h1
      rw [show isRowD (.tup ds) w = false from by simp only [isRowD]; rw [decide_eq_false (by omega)]; rfl] at q
      exact q
    have h1 := of_decide_eq_true h1
    refine iteB (fun h8 => ?_) (fun h8 => ?_)
    case refine_1 =>
      have h8 := of_decide_eq_false (Bool.not_eq_true' _ ▸ h8)
      rw [show isRowD (.tup ds) w = false from by simp only [isRowD]; rw [decide_eq_false (p := ds.length ≤ 8) (by omega), Bool.and_false]; rfl] at q
      exact q
    have h8 := of_decide_eq_true (Bool.not_eq_false' _ ▸ h8)
    have e0 : isRowD (.tup ds) w = (wOk ds.length w && ds.all entOk) := by simp only [isRowD]; rw [decide_eq_true (p := 1 ≤ ds.length) (by omega), decide_eq_true (p := ds.length ≤ 8) (by omega), Bool.true_and, Bool.true_and]
    rw [e0] at q
    rcases hw with rfl | ⟨k, rfl⟩
    · walk_at "lv"
      have e1 : (wOk ds.length D.non && ds.all entOk) = ds.all entOk := Bool.true_and _
      rw [e1] at q
      refine lp_is_row _ _ _ _ _ hp (fun h o => ?_) (fun h o => ?_) <;> (rw [h] at q; exact q)
    · walk_at "lv"
      refine iteB (fun hk => ?_) (fun hk => ?_)
      · have hk : ¬ (ds.length : Int) = k := by simpa using hk
        rw [wOk, decide_eq_false hk, Bool.false_and] at q
        exact q
      · have hk : (ds.length : Int) = k := by simpa using hk
        have e1 : (wOk ds.length (.int k) && ds.all entOk) = ds.all entOk := by rw [wOk, decide_eq_true hk, Bool.true_and]
        rw [e1] at q
        refine lp_is_row _ _ _ _ _ hp (fun h o => ?_) (fun h o => ?_) <;> (rw [h] at q; exact q)
def S_check_row : FSpec := fun args Q E => ∃ v w, args = [.fz v, .fz w] ∧ v.plain = true ∧ WidOk w ∧ (isRowD v w = true → Q (.fz .non) args) ∧ (isRowD v w = false → E ⟨"InvalidRow", ["value"], [v]⟩ args)
theorem mS_check_row : MonoF S_check_row := ⟨fun h h' ⟨d, w, a, b, c, q, e⟩ => ⟨d, w, a, b, c, fun k => h _ _ (q k), fun k => h' _ _ (e k)⟩⟩
theorem kp_check_row : Keeps S_check_row [] 2 2 (w_check_row S_is_row) where
  fit := fun args Q E ⟨xs, ys, a, _⟩ => a ▸ fit2
  run := fun args Q E ⟨v, w, a, hv, hw, q, e⟩ => by
    subst a
    unfold w_check_row
    walk_at "lv"
    simp only [S_is_row]
    walk_at "lv"
    exact ⟨hv, hw, iteB (fun h => e (by simpa using h)) fun h => q (by simpa using h)⟩
/-! ### check_rows -/
def firstBad : D → List D → Option D
  | _, [] => none
  | w, v :: r => if isRowD v w = true then (match v with
    | .tup ds => firstBad (.int ds.length) r
    | _ => none) else some v
/-! ### entries_cover -/
def S_entries_cover : FSpec := fun args Q _ => ∃ xs ys : List Int, args = [.fz (rowD xs), .fz (rowD ys)] ∧ Q (.fz (.bl (cov xs ys))) args
theorem mS_entries_cover : MonoF S_entries_cover := ⟨fun h _ ⟨d, a, b, q⟩ => ⟨d, a, b, h _ _ q⟩⟩
theorem lp_entries_cover (K : Ks) (a b : Option Val) : ∀ (l : List (Int × Int)) (o1 o2 : Option Val), (l.all (fun p => decide (p.2 ≤ p.1)) = true → ∀ o1 o2, K.nx [a, b, o1, o2]) → (l.all (fun p => decide (p.2 ≤ p.1)) = false → ∀ o1 o2, K.rt (.fz (.bl false)) [a, b, o1, o2]) →
    loopW (.t [2, 3]) (wIf (wB (wOp2 gLt (wVar 2) (wVar 3))) (wRet [] (wC (.bl false))) wSkip) yesK K (l.map fun p => D.tup [.int p.1, .int p.2]) [a, b, o1, o2]
  | [], o1, o2, h, _ => ⟨True.intro, h rfl _ _⟩
  | p :: l, o1, o2, h, h' => by
    walk_at "lv"
    by_cases hp : p.1 < p.2
    · rw [if_pos (decide_eq_true hp)]
      exact h' (by rw [List.all_cons, decide_eq_false (by omega), Bool.false_and]) _ _
    · rw [if_neg (by simpa using hp)]
      have e : (p :: l).all (fun p => decide (p.2 ≤ p.1)) = l.all fun p => decide (p.2 ≤ p.1) := by rw [List.all_cons, decide_eq_true (by omega), Bool.true_and]
      rw [e] at h h'
      exact lp_entries_cover K a b l _ _ h h'
theorem kp_entries_cover : Keeps S_entries_cover [] 2 4 w_entries_cover where
  fit := fun args Q E ⟨xs, ys, a, _⟩ => a ▸ fit2
  run := fun args Q E ⟨xs, ys, a, q⟩ => by
    subst a
    unfold w_entries_cover
    walk_at "lv"
    rw [zipD_ints]
    refine lp_entries_cover _ _ _ _ _ _ (fun h o1 o2 => ?_) (fun h o1 o2 => ?_)
    · walk_at "lv"; rw [← h]; exact q
    · walk_at "lv"; rw [← h]; exact q
def S_check_rows : FSpec := fun args Q E => ∃ l, args = [.fz (.lst l)] ∧ plainL l = true ∧ (firstBad .non l = none → Q (.fz .non) args) ∧ (∀ v, firstBad .non l = some v → E ⟨"InvalidRow", ["value"], [v]⟩ args)
theorem mS_check_rows : MonoF S_check_rows := ⟨fun h h' ⟨d, a, b, q, e⟩ => ⟨d, a, b, fun k => h _ _ (q k), fun v k => h' _ _ (e v k)⟩⟩
theorem lp_check_rows (K : Ks) (a : Option Val) : ∀ (l : List D) (w : D) (o : Option Val), plainL l = true → WidOk w → (firstBad w l = none → ∀ w o, K.nx [a, w, o]) → (∀ v, firstBad w l = some v → ∀ w o, K.ex ⟨"InvalidRow", ["value"], [v]⟩ [a, w, o]) →
    loopW (.n 2) (wSeq (wExp (wCall S_check_row (wCons (wFrz (wVar 2)) (wCons (wFrz (wVar 1)) wNil)))) (wSet 1 (wBlt gLen (wCons (wVar 2) wNil)))) yesK K l [a, some (.fz w), o]
  | [], w, o, _, _, h, _ => ⟨True.intro, h rfl _ _⟩
  | v :: l, w, o, hp, hw, h, h' => by
    obtain ⟨hp1, hp2⟩ := Bool.and_eq_true_iff.mp hp
    walk_at "lv"
    simp only [S_check_row]
    walk_at "lv"
    refine ⟨hp1, hw, fun k => ?_, fun k => ?_⟩
    · obtain ⟨ds, rfl⟩ : ∃ ds, v = .tup ds := by cases v <;> first | exact ⟨_, rfl⟩ | (simp [isRowD] at k)
      walk_at "lv"
      refine lp_check_rows K a l _ _ hp2 (.inr ⟨_, rfl⟩) (fun z => h ?_) (fun x z => h' x ?_) <;> (unfold firstBad; rw [if_pos k]; exact z)
    · exact h' v (by unfold firstBad; rw [if_neg (by rw [k]; decide)]) _ _
theorem kp_check_rows : Keeps S_check_rows [] 1 3 (w_check_rows S_check_row) where
  fit := fun args Q E ⟨xs, a, _⟩ => a ▸ fit1
  run := fun args Q E ⟨l, a, hp, q, e⟩ => by
    subst a
    unfold w_check_rows
    walk_at "lv"
    exact lp_check_rows _ _ _ _ _ hp (.inl rfl) (fun z _ _ => q z) (fun v z _ _ => e v z)
/-! ### covers_some, least_among -/
def S_covers_some : FSpec := fun args Q _ => ∃ (r : List Int) (rows : List (List Int)), args = [.fz (rowD r), .ow (.lst (rows.map rowD))] ∧ Q (.fz (.bl (rows.any (cov r)))) args
theorem mS_covers_some : MonoF S_covers_some := ⟨fun h _ ⟨d, w, a, q⟩ => ⟨d, w, a, h _ _ q⟩⟩
theorem fitO2' {o : O} {d : D} : ArgsFit [1] 2 [.fz d, .ow o] := ⟨rfl, fun j o h => by rcases j with _ | _ | j <;> simp at h ⊢, fun j a C ks vs h => by rcases j with _ | _ | j <;> simp at h⟩
theorem lp_covers_some (K : Ks) (r : List Int) (b : Val) (keep : KeepE) (hk : ∀ o, keep [some (.fz (rowD r)), some b, o]) : ∀ (l : List (List Int)) (o : Option Val), (l.any (cov r) = false → ∀ o, K.nx [some (.fz (rowD r)), some b, o]) → (l.any (cov r) = true → ∀ o, K.rt (.fz (.bl true)) [some (.fz (rowD r)), some b, o]) →
    loopW (.n 2) (wIf (wTru (wCall S_entries_cover (wCons (wFrz (wVar 0)) (wCons (wFrz (wVar 2)) wNil)))) (wRet [1] (wC (.bl true))) wSkip) keep K (l.map rowD) [some (.fz (rowD r)), some b, o]
  | [], o, h, _ => ⟨hk _, h rfl _⟩
  | s :: l, o, h, h' => by
    walk_at "lv"
    simp only [S_entries_cover]
    walk_at "lv"
    refine ⟨hk _, r, rfl, s, rfl, iteB (fun e => ?_) fun e => ?_⟩
    · exact h' (by rw [List.any_cons, e, Bool.true_or]) _
    · rw [List.any_cons, e, Bool.false_or] at h h'
      exact lp_covers_some K r b keep hk l _ h h'
theorem kp_covers_some : Keeps S_covers_some [1] 2 3 (w_covers_some S_entries_cover) where
  fit := fun args Q E ⟨xs, ys, a, _⟩ => a ▸ fitO2'
  run := fun args Q E ⟨r, rows, a, q⟩ => by
    subst a
    unfold w_covers_some
    walk_at "lv"
    refine lp_covers_some _ r _ _ (fun o => rfl) rows _ (fun h o => ⟨_, rfl, ?_⟩) (fun h o => ⟨_, rfl, ?_⟩) <;> (rw [h] at q; exact q)
/-- rows of one width, all entries in [0, B) -/
structure RowsOk (rows : List (List Int)) : Prop where
  few : rows.length < 64
  ok : ∃ (w : Nat) (B : Int), 1 ≤ w ∧ 0 < B ∧ ∀ r ∈ rows, r.length = w ∧ TS.Bd B r
def S_least_among : FSpec := fun args Q _ => ∃ rows : List (List Int), args = [.fz (.lst (rows.map rowD))] ∧ RowsOk rows ∧ ∀ K, Least rows K → Q (.ow (.lst (K.map rowD))) args
theorem mS_least_among : MonoF S_least_among := ⟨fun h _ ⟨d, a, b, q⟩ => ⟨d, a, b, fun K k => h _ _ (q K k)⟩⟩
theorem lp_least_among (K : Ks) (a : Option Val) (rows : List (List Int)) (w : Nat) (hw : ∀ r ∈ rows, r.length = w) (L : List (List Int)) (hs : L.Pairwise fun a b => ltI a b = true) (hm : ∀ r, r ∈ L ↔ r ∈ rows) (hl : L.length < 64)
    (hK : ∀ M o, Least rows M → K.nx [a, some (.ow (.lst (M.map rowD))), o]) : ∀ (L1 L2 : List (List Int)) (M : List (List Int)) (o : Option Val), L = L1 ++ L2 → (∀ r, r ∈ M ↔ r ∈ L1 ∧ Min rows r) → (M.Pairwise fun a b => ltI a b = true) → M.length ≤ L1.length →
    loopW (.n 2) (wIf (wtNot (wTru (wCall S_covers_some (wCons (wFrz (wVar 2)) (wCons (wVar 1) wNil))))) (wApp 1 (wVar 2)) wSkip) yesK K (L2.map rowD) [a, some (.ow (.lst (M.map rowD))), o]
  | L1, [], M, o, e, hM, sM, lM => ⟨True.intro, hK M o ⟨fun r => by rw [hM, ← hm, e, List.append_nil], sM⟩⟩
  | L1, r :: L2, M, o, e, hM, sM, lM => by
    walk_at "lv"
    simp only [S_covers_some]
    walk_at "lv"
    have hrL : r ∈ L := by rw [e]; exact List.mem_append_right _ List.mem_cons_self
    have hs' : (L1 ++ r :: L2).Pairwise fun a b => ltI a b = true := e ▸ hs
    obtain ⟨s1, s2, s3⟩ := List.pairwise_append.mp hs'
    have nr : r ∉ L1 := fun z => by
      have z := s3 r z r List.mem_cons_self
      rw [ltI_irr] at z; cases z
    have e1 : (L1 ++ [r]) ++ L2 = L1 ++ r :: L2 := by rw [List.append_assoc]; rfl
    have l1 : L1.length < 64 := by rw [e, List.length_append, List.length_cons] at hl; omega
    refine ⟨r, rfl, M, rfl, iteB (fun h => ?_) fun h => ?_⟩
    · have h : M.any (cov r) = false := by simpa using h
      have mr : Min rows r := Classical.byContradiction fun nm => by
        obtain ⟨s, sL, sc, sm⟩ := least_below hw L hs (fun x hx => (hm x).mp hx) (fun x _ s hs _ => (hm s).mpr hs) r hrL
        have ne : r ≠ s := fun z => nm (z ▸ sm)
        have lt := cov_lt (by rw [hw r ((hm r).mp hrL), hw s ((hm s).mp sL)]) sc ne
        have s1' : s ∈ L1 := by
          rw [e] at sL
          rcases List.mem_append.mp sL with z | z
          · exact z
          · rcases List.mem_cons.mp z with z | z
            · exact absurd z.symm ne
            · have := ltI_trans lt ((List.pairwise_cons.mp s2).1 s z)
              rw [ltI_irr] at this; cases this
        rw [List.any_eq_false] at h
        exact h s ((hM s).mpr ⟨s1', sm⟩) sc
      refine ⟨by rw [List.length_map, sizeLine_eq]; omega, ?_⟩
      have em : M.map rowD ++ [rowD r] = (M ++ [r]).map rowD := by rw [List.map_append]; rfl
      rw [em]
      refine lp_least_among K a rows w hw L hs hm hl hK (L1 ++ [r]) L2 (M ++ [r]) _ (e.trans e1.symm) (fun x => ?_) ?_ (by rw [List.length_append, List.length_append]; exact Nat.add_le_add_right lM _)
      · rw [List.mem_append, List.mem_append, hM x, List.mem_singleton]
        exact ⟨fun z => z.elim (fun ⟨a, b⟩ => ⟨.inl a, b⟩) fun z => ⟨.inr z, z ▸ mr⟩, fun ⟨a, b⟩ => a.elim (fun a => .inl ⟨a, b⟩) fun a => .inr a⟩
      · refine List.pairwise_append.mpr ⟨sM, List.pairwise_singleton _ _, fun x hx y hy => ?_⟩
        rw [List.mem_singleton] at hy
        subst hy
        exact s3 x ((hM x).mp hx).1 y List.mem_cons_self
    · have h : M.any (cov r) = true := by simpa using h
      refine lp_least_among K a rows w hw L hs hm hl hK (L1 ++ [r]) L2 M _ (e.trans e1.symm) (fun x => ?_) sM (by rw [List.length_append]; omega)
      obtain ⟨s, sM', sc⟩ := List.any_eq_true.mp h
      have nm : ¬ Min rows r := fun z => by
        have := z s ((hm s).mp (by rw [e]; exact List.mem_append_left _ ((hM s).mp sM').1)) sc
        exact nr (this ▸ ((hM s).mp sM').1)
      rw [hM x, List.mem_append, List.mem_singleton]
      exact ⟨fun ⟨a, b⟩ => ⟨.inl a, b⟩, fun ⟨a, b⟩ => a.elim (fun a => ⟨a, b⟩) fun a => absurd (a ▸ b) nm⟩
theorem kp_least_among : Keeps S_least_among [] 1 3 (w_least_among S_covers_some) where
  fit := fun args Q E ⟨xs, a, _⟩ => a ▸ fit1
  run := fun args Q E ⟨rows, a, ⟨few, w, B, h1, hB, ok⟩, q⟩ => by
    subst a
    unfold w_least_among
    walk_at "lv"
    simp only [wSortT]
    walk_at "lv"
    refine ⟨Nat.zero_le _, rows, rfl, few, w, h1, B, hB, ok, fun L hm hs hl => ?_⟩
    exact lp_least_among _ _ rows w (fun r hr => (ok r hr).1) L hs hm hl (fun M o hM => q M hM) [] L [] none rfl (fun r => ⟨fun z => (nomatch z), fun z => (nomatch z.1)⟩) .nil (Nat.le_refl _)
def S_least_of : FSpec := fun args Q E => ∃ l, args = [.fz (.lst l)] ∧ plainL l = true ∧ ((∃ rows, l = rows.map rowD ∧ firstBad .non l = none ∧ RowsOk rows ∧ ∀ K, Least rows K → Q (.ow (.lst (K.map rowD))) args) ∨ ∃ v, firstBad .non l = some v ∧ E ⟨"InvalidRow", ["value"], [v]⟩ args)
theorem mS_least_of : MonoF S_least_of := ⟨fun h h' ⟨d, a, b, q⟩ => ⟨d, a, b, q.elim (fun ⟨r, e, f, o, q⟩ => .inl ⟨r, e, f, o, fun K k => h _ _ (q K k)⟩) fun ⟨v, e, q⟩ => .inr ⟨v, e, h' _ _ q⟩⟩⟩
theorem kp_least_of : Keeps S_least_of [] 1 1 (w_least_of S_check_rows S_least_among) where
  fit := fun args Q E ⟨xs, a, _⟩ => a ▸ fit1
  run := fun args Q E ⟨l, a, hp, q⟩ => by
    subst a
    unfold w_least_of
    walk_at "lv"
    simp only [S_check_rows, S_least_among]
    walk_at "lv"
    rcases q with ⟨rows, rfl, fb, ok, q⟩ | ⟨v, fb, q⟩
    · refine ⟨hp, ⟨fun _ => ⟨rows, rfl, ok, fun K hK => q K hK⟩, fun v z => ?_⟩⟩
      rw [fb] at z; cases z
    · refine ⟨hp, ⟨fun z => ?_, fun v' z => ?_⟩⟩
      · rw [fb] at z; cases z
      · rw [fb] at z; cases z; exact q
end LV


set_option Elab.async false
set_option linter.all false
set_option maxRecDepth 100000
set_option maxHeartbeats 400000
set_option exponentiation.threshold 10000
namespace LV
open PySem PySem.Spec L2
open PySem.W (dataLt dataLe AllAlike Sortable alike alikeAll dataLt_cons dataLt_tuple dataLt_ii keyToksAll)
open PyProof.Rows (itemOrd lex_irrefl)
/-! ### is_high, check_high, check_highs -/
def entOkH : D → Bool
  | .non => true
  | .int i => decide (0 ≤ i)
  | _ => false
def isHighD (v w : D) : Bool := match v with
  | .tup ds => decide (1 ≤ ds.length) && decide (ds.length ≤ 8) && wOk ds.length w && ds.all entOkH
  | _ => false
def S_is_high : FSpec := fun args Q _ => ∃ v w, args = [.fz v, .fz w] ∧ v.plain = true ∧ WidOk w ∧ Q (.fz (.bl (isHighD v w))) args
theorem mS_is_high : MonoF S_is_high := ⟨fun h _ ⟨d, w, a, b, c, q⟩ => ⟨d, w, a, b, c, h _ _ q⟩⟩
theorem lp_is_high (K : Ks) (a b : Option Val) : ∀ (l : List D) (o : Option Val), plainL l = true → (l.all entOkH = true → ∀ o, K.nx [a, b, o]) → (l.all entOkH = false → ∀ o, K.rt (.fz (.bl false)) [a, b, o]) →
    loopW (.n 2) (wIf (wtAnd (wB (wOp2 gIsNotN (wVar 2) (wC .non))) (wtOr (wtNot (wTru (wCall S_is_integer (wCons (wFrz (wVar 2)) wNil)))) (wB (wOp2 gLt (wVar 2) (wC (.int 0)))))) (wRet [] (wC (.bl false))) wSkip) yesK K l [a, b, o]
  | [], o, _, h, _ => ⟨True.intro, h rfl _⟩
  | d :: l, o, hp, h, h' => by
    obtain ⟨hp1, hp2⟩ := Bool.and_eq_true_iff.mp hp
    walk_at "lv"
    by_cases hn : d = .non
    · subst hn
      walk_at "lv"
      have e : (D.non :: l).all entOkH = l.all entOkH := by rw [List.all_cons]; rfl
      rw [e] at h h'
      exact lp_is_high K a b l _ hp2 h h'
    have e1 : isN d = false := by cases d <;> first | rfl | exact absurd rfl hn
    change ite ((!isN d) = true) _ _
    rw [e1]
    walk_at "lv"
    simp only [S_is_integer]
    walk_at "lv"
    refine ⟨hp1, ?_⟩
    cases d <;> simp only [isInt, Bool.not_true, Bool.not_false, if_true, Bool.false_eq_true, if_false] <;> (try exact absurd rfl hn) <;> try exact h' rfl _
    walk_at "lv"
    rename_i i
    by_cases hi : i < 0
    · rw [if_pos (decide_eq_true hi)]
      exact h' (by rw [List.all_cons, entOkH, decide_eq_false (by omega), Bool.false_and]) _
    · rw [if_neg (by simpa using hi)]
      have e : (D.int i :: l).all entOkH = l.all entOkH := by rw [List.all_cons, entOkH, decide_eq_true (by omega), Bool.true_and]
      rw [e] at h h'
      exact lp_is_high K a b l _ hp2 h h'
theorem kp_is_high : Keeps S_is_high [] 2 3 (w_is_high S_is_integer) where
  fit := fun args Q E ⟨xs, ys, a, _⟩ => a ▸ fit2
  run := fun args Q E ⟨v, w, a, hv, hw, q⟩ => by
    subst a
    unfold w_is_high
    walk_at "lv"
    obtain ⟨t, ht⟩ := plain_ty hv
    refine ⟨t, ht, ?_⟩
    cases v <;> simp only [D.ty, Option.some.injEq, reduceCtorEq] at ht <;> subst ht <;> simp only [isaT, decide_true, decide_false, Bool.not_true, Bool.not_false, if_true, reduceCtorEq, Bool.false_eq_true, if_false] <;> try exact q
    rename_i ds _
    have hp : plainL ds = true := hv
    walk_at "lv"
    refine iteB (fun h1 => ?_) (fun h1 => ?_)
    case refine_2 =>
      have h1 := of_decide_eq_false h1
      rw [show isHighD (.tup ds) w = false from by simp only [isHighD]; rw [decide_eq_false (by omega)]; rfl] at q
      exact q
    have h1 := of_decide_eq_true h1
    refine iteB (fun h8 => ?_) (fun h8 => ?_)
    case refine_1 =>
      have h8 := of_decide_eq_false (Bool.not_eq_true' _ ▸ h8)
      rw [show isHighD (.tup ds) w = false from by simp only [isHighD]; rw [decide_eq_false (p := ds.length ≤ 8) (by omega), Bool.and_false]; rfl] at q
      exact q
    have h8 := of_decide_eq_true (Bool.not_eq_false' _ ▸ h8)
    have e0 : isHighD (.tup ds) w = (wOk ds.length w && ds.all entOkH) := by simp only [isHighD]; rw [decide_eq_true (p := 1 ≤ ds.length) (by omega), decide_eq_true (p := ds.length ≤ 8) (by omega), Bool.true_and, Bool.true_and]
    rw [e0] at q
    rcases hw with rfl | ⟨k, rfl⟩
    · walk_at "lv"
      have e1 : (wOk ds.length D.non && ds.all entOkH) = ds.all entOkH := Bool.true_and _
      rw [e1] at q
      refine lp_is_high _ _ _ _ _ hp (fun h o => ?_) (fun h o => ?_) <;> (rw [h] at q; exact q)
    · walk_at "lv"
      refine iteB (fun hk => ?_) (fun hk => ?_)
      · have hk : ¬ (ds.length : Int) = k := by simpa using hk
        rw [wOk, decide_eq_false hk, Bool.false_and] at q
        exact q
      · have hk : (ds.length : Int) = k := by simpa using hk
        have e1 : (wOk ds.length (.int k) && ds.all entOkH) = ds.all entOkH := by rw [wOk, decide_eq_true hk, Bool.true_and]
        rw [e1] at q
        refine lp_is_high _ _ _ _ _ hp (fun h o => ?_) (fun h o => ?_) <;> (rw [h] at q; exact q)
def S_check_high : FSpec := fun args Q E => ∃ v w, args = [.fz v, .fz w] ∧ v.plain = true ∧ WidOk w ∧ (isHighD v w = true → Q (.fz .non) args) ∧ (isHighD v w = false → E ⟨"InvalidRow", ["value"], [v]⟩ args)
theorem mS_check_high : MonoF S_check_high := ⟨fun h h' ⟨d, w, a, b, c, q, e⟩ => ⟨d, w, a, b, c, fun k => h _ _ (q k), fun k => h' _ _ (e k)⟩⟩
theorem kp_check_high : Keeps S_check_high [] 2 2 (w_check_high S_is_high) where
  fit := fun args Q E ⟨xs, ys, a, _⟩ => a ▸ fit2
  run := fun args Q E ⟨v, w, a, hv, hw, q, e⟩ => by
    subst a
    unfold w_check_high
    walk_at "lv"
    simp only [S_is_high]
    walk_at "lv"
    exact ⟨hv, hw, iteB (fun h => e (by simpa using h)) fun h => q (by simpa using h)⟩
/-! ### keys -/
def keyE : Option Int → D
  | none => .tup [.int 1, .int 0]
  | some e => .tup [.int 0, .int e]
abbrev keyD (h : High) : D := .tup (h.map keyE)
def keyO : D → D
  | .int e => .tup [.int 0, .int e]
  | _ => .tup [.int 1, .int 0]
theorem keyO_ent : ∀ x, keyO (entD x) = keyE x
  | none => rfl
  | some _ => rfl
def S_high_key : FSpec := fun args Q _ => ∃ h : High, args = [.fz (highD h)] ∧ h.length ≤ 1000 ∧ Q (.fz (keyD h)) args
theorem mS_high_key : MonoF S_high_key := ⟨fun h _ ⟨d, a, b, q⟩ => ⟨d, a, b, h _ _ q⟩⟩
theorem kp_high_key : Keeps S_high_key [] 1 2 w_high_key where
  fit := fun args Q E ⟨d, a, _⟩ => a ▸ fit1
  run := fun args Q E ⟨h, a, hl, q⟩ => by
    subst a
    unfold w_high_key wLc
    have sz := sizeLine_eq
    walk_at "lv"
    simp only [wipeE, List.set_cons_zero, List.set_cons_succ]
    refine cw_map keyO True.intro _ (fun d hd => ?_) (by rw [List.length_map]; omega) ?_
    · obtain ⟨x, hx, rfl⟩ := List.mem_map.mp hd
      refine ⟨_, rfl, rfl, fun G g => ?_⟩
      cases x with
      | none => simp_all! only [entD]; exact ⟨by omega, g⟩
      | some e => simp_all! only [entD]; exact ⟨by omega, g⟩
    · rw [List.map_map, show keyO ∘ entD = keyE from funext keyO_ent]
      exact q
def S__law_key : FSpec := S_high_key
theorem mS__law_key : MonoF S__law_key := mS_high_key
theorem kp__law_key : Keeps S__law_key [] 1 2 w__law_key := kp_high_key
/-! ### bounds -/
def minB : Option Int → Option Int → Option Int
  | none, b => b
  | some a, none => some a
  | some a, some b => some (min a b)
/-! ### under -/
theorem zipD_ents : ∀ (a b : High), zipD (a.map entD) (b.map entD) = (a.zip b).map fun p => D.tup [entD p.1, entD p.2]
  | [], _ => by simp [zipD]
  | _ :: _, [] => by simp [zipD]
  | x :: xs, y :: ys => by simp [zipD, zipD_ents xs ys]
def S_entries_under : FSpec := fun args Q _ => ∃ a b : High, args = [.fz (highD a), .fz (highD b)] ∧ Q (.fz (.bl (under a b))) args
theorem mS_entries_under : MonoF S_entries_under := ⟨fun h _ ⟨d, a, b, q⟩ => ⟨d, a, b, h _ _ q⟩⟩
theorem lp_entries_under (K : Ks) (a b : Option Val) : ∀ (l : List (Option Int × Option Int)) (o1 o2 : Option Val), (l.all (fun p => leB p.1 p.2) = true → ∀ o1 o2, K.nx [a, b, o1, o2]) → (l.all (fun p => leB p.1 p.2) = false → ∀ o1 o2, K.rt (.fz (.bl false)) [a, b, o1, o2]) →
    loopW (.t [2, 3]) (wIf (wtAnd (wB (wOp2 gIsNotN (wVar 3) (wC .non))) (wtOr (wB (wOp2 gIsN (wVar 2) (wC .non))) (wB (wOp2 gGt (wVar 2) (wVar 3))))) (wRet [] (wC (.bl false))) wSkip) yesK K (l.map fun p => D.tup [entD p.1, entD p.2]) [a, b, o1, o2]
  | [], o1, o2, h, _ => ⟨True.intro, h rfl _ _⟩
  | (x, y) :: l, o1, o2, h, h' => by
    have go : leB x y = true → loopW (.t [2, 3]) (wIf (wtAnd (wB (wOp2 gIsNotN (wVar 3) (wC .non))) (wtOr (wB (wOp2 gIsN (wVar 2) (wC .non))) (wB (wOp2 gGt (wVar 2) (wVar 3))))) (wRet [] (wC (.bl false))) wSkip) yesK K (l.map fun p => D.tup [entD p.1, entD p.2]) [a, b, some (.fz (entD x)), some (.fz (entD y))] := fun e => by
      have e2 : ((x, y) :: l).all (fun p => leB p.1 p.2) = l.all fun p => leB p.1 p.2 := by rw [List.all_cons, e, Bool.true_and]
      rw [e2] at h h'
      exact lp_entries_under K a b l _ _ h h'
    have no : leB x y = false → ∀ o1 o2, K.rt (.fz (.bl false)) [a, b, o1, o2] := fun e => h' (by rw [List.all_cons, e, Bool.false_and])
    cases y with
    | none =>
      simp_all! only [entD]
      exact go rfl
    | some y =>
      cases x with
      | none =>
        simp_all! only [entD]
        exact no rfl _ _
      | some x =>
        simp_all! only [entD]
        refine iteB (fun hh => ?_) fun hh => ?_
        · exact no (decide_eq_false (by have := of_decide_eq_true hh; omega)) _ _
        · exact go (decide_eq_true (by have := of_decide_eq_false hh; omega))
theorem kp_entries_under : Keeps S_entries_under [] 2 4 w_entries_under where
  fit := fun args Q E ⟨xs, ys, a, _⟩ => a ▸ fit2
  run := fun args Q E ⟨x, y, a, q⟩ => by
    subst a
    unfold w_entries_under
    walk_at "lv"
    rw [zipD_ents]
    refine lp_entries_under _ _ _ _ _ _ (fun h o1 o2 => ?_) (fun h o1 o2 => ?_)
    · walk_at "lv"; rw [← h]; exact q
    · walk_at "lv"; rw [← h]; exact q
def S_under_some : FSpec := fun args Q _ => ∃ (r : High) (rows : List High), args = [.fz (highD r), .ow (.lst (rows.map highD))] ∧ Q (.fz (.bl (rows.any (under r)))) args
theorem mS_under_some : MonoF S_under_some := ⟨fun h _ ⟨d, w, a, q⟩ => ⟨d, w, a, h _ _ q⟩⟩
theorem lp_under_some (K : Ks) (r : High) (b : Val) (keep : KeepE) (hk : ∀ o, keep [some (.fz (highD r)), some b, o]) : ∀ (l : List High) (o : Option Val), (l.any (under r) = false → ∀ o, K.nx [some (.fz (highD r)), some b, o]) → (l.any (under r) = true → ∀ o, K.rt (.fz (.bl true)) [some (.fz (highD r)), some b, o]) →
    loopW (.n 2) (wIf (wTru (wCall S_entries_under (wCons (wFrz (wVar 0)) (wCons (wFrz (wVar 2)) wNil)))) (wRet [1] (wC (.bl true))) wSkip) keep K (l.map highD) [some (.fz (highD r)), some b, o]
  | [], o, h, _ => ⟨hk _, h rfl _⟩
  | s :: l, o, h, h' => by
    walk_at "lv"
    refine ⟨hk _, ?_⟩
    simp only [S_entries_under]
    walk_at "lv"
    refine ⟨r, rfl, s, rfl, ?_⟩
    try walk_at "lv"
    cases e : under r s with
    | true =>
      rw [if_pos rfl]
      exact h' (by rw [List.any_cons, e, Bool.true_or]) _
    | false =>
      rw [if_neg Bool.false_ne_true]
      have e2 : (s :: l).any (under r) = l.any (under r) := by rw [List.any_cons, e, Bool.false_or]
      rw [e2] at h h'
      exact lp_under_some K r b keep hk l _ h h'
theorem kp_under_some : Keeps S_under_some [1] 2 3 (w_under_some S_entries_under) where
  fit := fun args Q E ⟨xs, ys, a, _⟩ => a ▸ fitO2'
  run := fun args Q E ⟨r, rows, a, q⟩ => by
    subst a
    unfold w_under_some
    walk_at "lv"
    refine lp_under_some _ r _ _ (fun o => rfl) rows none (fun h o => ?_) (fun h o => ?_)
    · walk_at "lv"; rw [← h]; exact q
    · walk_at "lv"; rw [← h]; exact q
theorem ents_row : ∀ {ds : List D}, ds.all entOk = true → ∃ r : List Int, ds = r.map D.int ∧ ∀ x ∈ r, 0 ≤ x
  | [], _ => ⟨[], rfl, fun _ h => (nomatch h)⟩
  | d :: ds, h => by
    rw [List.all_cons, Bool.and_eq_true_iff] at h
    obtain ⟨r, e, hr⟩ := ents_row h.2
    cases d with
    | int i =>
      refine ⟨i :: r, by rw [e]; rfl, fun x hx => ?_⟩
      rcases List.mem_cons.mp hx with z | z
      · rw [z]; exact of_decide_eq_true h.1
      · exact hr x z
    | _ => exact nomatch h.1
def HNN (h : High) : Prop := ∀ x ∈ h, ∀ i, x = some i → 0 ≤ i
theorem ents_high : ∀ {ds : List D}, ds.all entOkH = true → ∃ r : High, ds = r.map entD ∧ HNN r
  | [], _ => ⟨[], rfl, fun _ h => (nomatch h)⟩
  | d :: ds, h => by
    rw [List.all_cons, Bool.and_eq_true_iff] at h
    obtain ⟨r, e, hr⟩ := ents_high h.2
    cases d with
    | int i =>
      refine ⟨some i :: r, by rw [e]; rfl, fun x hx j ej => ?_⟩
      rcases List.mem_cons.mp hx with z | z
      · rw [z] at ej; cases ej; exact of_decide_eq_true h.1
      · exact hr x z j ej
    | non =>
      refine ⟨none :: r, by rw [e]; rfl, fun x hx j ej => ?_⟩
      rcases List.mem_cons.mp hx with z | z
      · rw [z] at ej; cases ej
      · exact hr x z j ej
    | _ => exact nomatch h.1
theorem isRowD_row {v w : D} (h : isRowD v w = true) : ∃ r : List Int, v = rowD r ∧ (∀ x ∈ r, 0 ≤ x) ∧ 1 ≤ r.length ∧ r.length ≤ 8 ∧ wOk r.length w = true := by
  cases v with
  | tup ds =>
    simp only [isRowD, Bool.and_eq_true_iff] at h
    obtain ⟨r, e, hr⟩ := ents_row h.2
    subst e
    rw [List.length_map] at h
    exact ⟨r, rfl, hr, of_decide_eq_true h.1.1.1, of_decide_eq_true h.1.1.2, h.1.2⟩
  | _ => exact nomatch h
theorem isHighD_high {v w : D} (h : isHighD v w = true) : ∃ r : High, v = highD r ∧ HNN r ∧ 1 ≤ r.length ∧ r.length ≤ 8 ∧ wOk r.length w = true := by
  cases v with
  | tup ds =>
    simp only [isHighD, Bool.and_eq_true_iff] at h
    obtain ⟨r, e, hr⟩ := ents_high h.2
    subst e
    rw [List.length_map] at h
    exact ⟨r, rfl, hr, of_decide_eq_true h.1.1.1, of_decide_eq_true h.1.1.2, h.1.2⟩
  | _ => exact nomatch h
abbrev IR (v : D) : Xn := ⟨"InvalidRow", ["value"], [v]⟩
def lenD : D → Int
  | .tup ds => ds.length
  | _ => 0
/-! ### the keys' order -/
theorem key_alike (x y : Option Int) : alike (keyE x).pd (keyE y).pd = true := by cases x <;> cases y <;> rfl
theorem keys_alike : ∀ a b : High, alikeAll (pdL (a.map keyE)) (pdL (b.map keyE)) = true
  | [], _ => by cases ‹List (Option Int)› <;> rfl
  | _ :: _, [] => rfl
  | x :: a, y :: b => by
    show (alike (keyE x).pd (keyE y).pd && alikeAll (pdL (a.map keyE)) (pdL (b.map keyE))) = true
    rw [key_alike, keys_alike a b]; rfl
theorem key_eqv : ∀ x y : Option Int, PyData.eqv (keyE x).pd (keyE y).pd = decide (x = y)
  | none, none => by decide +kernel
  | none, some e => by
    show (((1 : Int) == 0) && (((0 : Int) == e) && true)) = decide (none = some e)
    simp
  | some e, none => by
    show (((0 : Int) == 1) && ((e == (0 : Int)) && true)) = decide (some e = none)
    simp
  | some a, some b => by
    show (((0 : Int) == 0) && ((a == b) && true)) = decide (some a = some b)
    by_cases h : a = b
    · simp [h]
    · simp [h]
theorem key_dlt : ∀ x y : Option Int, x ≠ y → dataLt (keyE x).pd (keyE y).pd = ltE x y
  | none, none, h => absurd rfl h
  | none, some e, _ => (dataLt_ii 1 0 0 e).trans (by simp [ltE])
  | some e, none, _ => (dataLt_ii 0 e 1 0).trans (by simp [ltE])
  | some a, some b, _ => (dataLt_ii 0 a 0 b).trans (by simp [ltE])
theorem keys_lt : ∀ a b : High, a.length = b.length → PyProof.Rows.lexLt itemOrd (keyToksAll (pdL (a.map keyE))) (keyToksAll (pdL (b.map keyE))) = ltH a b
  | [], [], _ => lex_irrefl _
  | [], _ :: _, h => nomatch h
  | _ :: _, [], h => nomatch h
  | x :: a, y :: b, h => by
    have e := dataLt_cons (key_alike x y) (pdL (a.map keyE)) (pdL (b.map keyE))
    rw [key_eqv, keys_lt a b (Nat.succ.inj h)] at e
    show PyProof.Rows.lexLt itemOrd (keyToksAll ((keyE x).pd :: pdL (a.map keyE))) (keyToksAll ((keyE y).pd :: pdL (b.map keyE))) = if x = y then ltH a b else ltE x y
    rw [e]
    by_cases hx : x = y
    · rw [if_pos (decide_eq_true hx), if_pos hx]
    · rw [if_neg (by simpa using hx), if_neg hx, key_dlt x y hx]
theorem keyD_lt {a b : High} (h : a.length = b.length) : dataLt (keyD a).pd (keyD b).pd = ltH a b := by
  show dataLt (.tuple (pdL (a.map keyE))) (.tuple (pdL (b.map keyE))) = ltH a b
  rw [dataLt_tuple]; exact keys_lt a b h
def kfD : D → D
  | .tup ds => .tup (ds.map keyO)
  | d => d
theorem kfD_high (h : High) : kfD (highD h) = keyD h := by
  show D.tup ((h.map entD).map keyO) = keyD h
  rw [List.map_map, show keyO ∘ entD = keyE from funext keyO_ent]
def unO : D → Option Int
  | .int i => some i
  | _ => none
theorem unO_ent : ∀ x, unO (entD x) = x
  | none => rfl
  | some _ => rfl
def unH : D → High
  | .tup ds => ds.map unO
  | _ => []
theorem unH_high (h : High) : unH (highD h) = h := by
  show (h.map entD).map unO = h
  rw [List.map_map, show unO ∘ entD = id from funext unO_ent, List.map_id]
/-! ### the dict of the high rows -/
def nkE : Option Int → NestedKey
  | none => .none
  | some i => .num i
theorem nkDs_ents : ∀ h : High, nkDs (h.map nkE) = h.map entD
  | [] => rfl
  | none :: h => by rw [List.map_cons, nkDs, nkDs_ents h]; rfl
  | some i :: h => by rw [List.map_cons, nkDs, nkDs_ents h]; rfl
theorem depth_ents : ∀ h : High, NestedKey.depthAll (h.map nkE) = 0
  | [] => rfl
  | none :: h => by show max 0 (NestedKey.depthAll (h.map nkE)) = 0; rw [depth_ents h]; rfl
  | some i :: h => by show max 0 (NestedKey.depthAll (h.map nkE)) = 0; rw [depth_ents h]; rfl
theorem high_key (h : High) : KeyT (highD h) := ⟨h.map nkE, by rw [nkD, nkDs_ents], by show NestedKey.depthAll (h.map nkE) + 1 ≤ 8; rw [depth_ents]; decide⟩
theorem lp_dict (K : Ks) (a b : Option Val) : ∀ (l : List High) (dd : List High) (vs : List D) (o : Option Val), dd.Nodup → dd.length + l.length ≤ 100000 →
    (∀ (dd' : List High) (vs' : List D) (o' : Option Val), dd'.Nodup → dd'.length ≤ dd.length + l.length → (∀ h, h ∈ dd' ↔ h ∈ dd ∨ h ∈ l) → K.nx [a, b, some (.ow (.dct (dd'.map highD) vs')), o', none]) →
    loopW (.n 3) (wSetKey 2 (wC (.bl true)) (wVar 3)) yesK K (l.map highD) [a, b, some (.ow (.dct (dd.map highD) vs)), o, none]
  | [], dd, vs, o, hn, _, hK => ⟨True.intro, hK dd vs o hn (by simp) fun h => by simp⟩
  | h :: l, dd, vs, o, hn, hl, hK => by
    have sz := sizeLine_eq
    rw [List.length_cons] at hl hK
    simp_all! only [wSetKey, O.dct.injEq]
    refine ⟨high_key h, fun k' hk' => ?_, by rw [List.length_map]; omega, fun ks' ds' put => ?_⟩
    · obtain ⟨g, hg, rfl⟩ := List.mem_map.mp hk'
      exact high_key g
    · rcases put with ⟨j, hj, rfl, rfl⟩ | ⟨nk, rfl, rfl⟩
      · have hm : h ∈ dd := by
          obtain ⟨g, hg, e⟩ := List.mem_map.mp (List.mem_of_getElem? hj)
          rw [← highD_inj e]; exact hg
        refine lp_dict K a b l dd _ _ hn (by omega) fun dd' vs' o' h1 h2 h3 => hK dd' vs' o' h1 (by omega) fun x => ?_
        rw [h3 x, List.mem_cons]
        exact ⟨fun z => z.elim .inl fun z => .inr (.inr z), fun z => z.elim .inl fun z => z.elim (fun z => .inl (z ▸ hm)) .inr⟩
      · have hm : h ∉ dd := fun z => nk (List.mem_map_of_mem z)
        rw [show List.map highD dd ++ [highD h] = (dd ++ [h]).map highD by rw [List.map_append]; rfl]
        refine lp_dict K a b l (dd ++ [h]) _ _ ?_ (by rw [List.length_append, List.length_singleton]; omega) fun dd' vs' o' h1 h2 h3 => hK dd' vs' o' h1 (by rw [List.length_append, List.length_singleton] at h2; omega) fun x => ?_
        · exact List.nodup_append.mpr ⟨hn, by simp, fun x hx y hy e => hm (by rw [List.mem_singleton.mp hy] at e; exact e ▸ hx)⟩
        · rw [h3 x, List.mem_append, List.mem_singleton, List.mem_cons]
          exact ⟨fun z => z.elim (fun z => z.elim .inl fun z => .inr (.inl z)) fun z => .inr (.inr z), fun z => z.elim (fun z => .inl (.inl z)) fun z => z.elim (fun z => .inl (.inr z)) .inr⟩
end LV


set_option Elab.async false
set_option linter.all false
set_option maxRecDepth 100000
set_option maxHeartbeats 400000
set_option exponentiation.threshold 10000
namespace LV
open PySem PySem.Spec L2
open PySem.W (dataLt dataLe AllAlike Sortable alike alikeAll dataLt_cons dataLt_tuple dataLt_ii keyToksAll)
open PyProof.Rows (itemOrd lex_irrefl)
/-! ### the bag -/
def BagOk (o : O) (m : Int) : Prop := ∃ (g s n : Int) (cs : List Int), o = .lst [.int g, .int s, .int n, .lst (cs.map D.int)] ∧ 0 ≤ s ∧ s < 2147483648 ∧ 0 ≤ n ∧ n ≤ m ∧ ∀ c ∈ cs, Builtin.Int.intBits c ≤ 1048576
def S__law_take : FSpec := fun args Q _ => ∃ o many m, args = [.ow o, .fz (.int many)] ∧ BagOk o m ∧ 1 ≤ many ∧ many < 10 ^ 40 ∧ m < 1000000000 ∧ ∀ d o', 0 ≤ d → d < many → BagOk o' (m + 1) → Q (.fz (.int d)) [.ow o', .fz (.int many)]
theorem mS__law_take : MonoF S__law_take := ⟨fun h _ ⟨o, k, m, a, b, c, d, e, q⟩ => ⟨o, k, m, a, b, c, d, e, fun x y h1 h2 h3 => h _ _ (q x y h1 h2 h3)⟩⟩
theorem fm_nn {i j : Int} (h : 1 ≤ j) : 0 ≤ i.fmod j ∧ i.fmod j < j := by
  rw [Int.fmod_eq_emod_of_nonneg i (by omega)]
  exact ⟨Int.emod_nonneg _ (by omega), Int.emod_lt_of_pos _ (by omega)⟩
theorem bits31 {i : Int} (h : -2147483648 ≤ i) (h' : i ≤ 2147483648) : Builtin.Int.intBits i ≤ 32 := PyProof.Rows.intBits_le (by omega)
theorem dv_ok {i j : Int} (h : 1 ≤ j) (h' : j < 10 ^ 40) : CDvA i j :=
  ⟨by omega, PyProof.noPylong_of_log2 (PySem.Flt.log2_lt_of (by decide) (show j.natAbs < 2 ^ 9000 from Nat.lt_trans (show j.natAbs < 2 ^ 140 by omega) (Nat.pow_lt_pow_right (by decide) (by decide))))⟩
theorem kp__law_take : Keeps S__law_take [0] 2 8 w__law_take where
  fit := fun args Q E ⟨o, k, m, a, _⟩ => a ▸ fitO2
  run := fun args Q E ⟨o, many, m, a, ⟨g, s, n, cs, e, s0, s1, n0, n1, hc⟩, h1, h2, hm, q⟩ => by
    subst a e
    unfold w__law_take
    refine seq_k fun K1 hn hr hb hct he => ?_
    walk_at "lv"
    refine hn _ (seq_k fun K2 hn2 hr2 hb2 hct2 he2 => ?_)
    have bag2 : ∀ g', BagOk (.lst [.int g', .int s, .int (n + 1), .lst (cs.map D.int)]) (m + 1) := fun g' => ⟨g', s, n + 1, cs, rfl, s0, s1, by omega, by omega, hc⟩
    walk_at "lv"
    refine iteB (fun hg => ?_) fun hg => ?_
    · rw [hr2]
      walk_at "lv"
      obtain ⟨f1, f2⟩ := fm_nn (i := g) h1
      exact ⟨by omega, dv_ok h1 h2, q _ _ f1 f2 (bag2 _)⟩
    · refine hn2 _ (seq_k fun K3 hn3 hr3 hb3 hct3 he3 => ?_)
      walk_at "lv"
      refine hn3 _ (seq_k fun K4 hn4 hr4 hb4 hct4 he4 => ?_)
      walk_at "lv"
      refine iteB (fun hz => ?_) fun hz => ?_
      · rw [hr4]
        walk_at "lv"
        obtain ⟨f1, f2⟩ := fm_nn (i := n + 1) h1
        exact ⟨by omega, q _ _ f1 f2 (bag2 _)⟩
      · refine hn4 _ (seq_k fun K5 hn5 hr5 hb5 hct5 he5 => ?_)
        have hcl : 1 ≤ (cs.length : Int) := by
          cases cs with
          | nil => simp at hz
          | cons c cs => rw [List.length_cons]; omega
        walk_at "lv"
        obtain ⟨f1, f2⟩ := fm_nn (i := n + 1) hcl
        rw [List.length_map]
        obtain ⟨d, hd, hdm⟩ := at_in (l := cs.map D.int) f1 (by rw [List.length_map]; exact f2)
        obtain ⟨cell, hcell, rfl⟩ := List.mem_map.mp hdm
        refine ⟨by omega, _, hd, ?_⟩
        refine hn5 _ (seq_k fun K6 hn6 hr6 hb6 hct6 he6 => ?_)
        have hcb := hc cell hcell
        walk_at "lv"
        have bn : Builtin.Int.intBits (n + 1) ≤ 32 := bits31 (by omega) (by omega)
        refine ⟨by unfold CMulX; have := bits31 (i := 48271) (by decide) (by decide); omega, by unfold CMulX; have := bits31 (i := 69621) (by decide) (by decide); omega, by decide, ?_⟩
        obtain ⟨a1, a2⟩ := fm_nn (i := cell * 48271 + (n + 1) * 69621 + s) (j := 2147483629) (by decide)
        generalize (cell * 48271 + (n + 1) * 69621 + s).fmod 2147483629 = x5 at a1 a2 ⊢
        refine hn6 _ (seq_k fun K7 hn7 hr7 hb7 hct7 he7 => ?_)
        walk_at "lv"
        have b5 : Builtin.Int.intBits x5 ≤ 32 := bits31 (by omega) (by omega)
        refine ⟨by unfold CMulX; omega, by decide, ?_⟩
        obtain ⟨c1, c2⟩ := fm_nn (i := x5 * x5 + s) (j := 2147483647) (by decide)
        generalize (x5 * x5 + s).fmod 2147483647 = x6 at c1 c2 ⊢
        refine hn7 _ (seq_k fun K8 hn8 hr8 hb8 hct8 he8 => ?_)
        walk_at "lv"
        have b6 : Builtin.Int.intBits x6 ≤ 32 := bits31 (by omega) (by omega)
        refine ⟨by unfold CMulX; omega, by decide, ?_⟩
        generalize (x6 * x6 + (n + 1)).fmod 2147483629 = x7
        refine hn8 _ ?_
        walk_at "lv"
        obtain ⟨d1, d2⟩ := fm_nn (i := x7.fdiv 64) h1
        exact ⟨dv_ok (by decide) (by decide), by omega, q _ _ d1 d2 (bag2 _)⟩
theorem BagOk.mono {o : O} {m m' : Int} (h : BagOk o m) (k : m ≤ m') : BagOk o m' :=
  let ⟨g, s, n, cs, a, b, c, d, e, f⟩ := h
  ⟨g, s, n, cs, a, b, c, d, Int.le_trans e k, f⟩
/-! ### a tuple with one place changed -/
theorem cut_take {ds : List D} {k : Nat} : cutD ds none (some (k : Int)) = ds.take k := by
  unfold cutD
  rw [HT.sIx_none, HT.sIx_nat]
  simp
theorem cut_drop {ds : List D} {k : Nat} : cutD ds (some (k : Int)) none = ds.drop k := by
  unfold cutD
  rw [HT.sIx_none, HT.sIx_nat]
  by_cases h : k ≤ ds.length
  · rw [Nat.min_eq_left h, List.take_of_length_le (by rw [List.length_drop]; omega)]
  · rw [List.drop_eq_nil_of_le (by omega : ds.length ≤ k), List.drop_eq_nil_of_le (by omega)]; simp
/-- entries of a row: width w, in [0, B) -/
structure RowOk (w : Nat) (B : Int) (r : List Int) : Prop where
  len : r.length = w
  bd : ∀ x ∈ r, 0 ≤ x ∧ x < B
theorem put_row {r : List Int} {k : Nat} {v : Int} : (r.map D.int).take k ++ [D.int v] ++ (r.map D.int).drop (k + 1) = (r.take k ++ v :: r.drop (k + 1)).map D.int := by
  rw [List.map_append, List.map_cons, List.map_take, List.map_drop, List.append_assoc]; rfl
theorem RowOk.put {w : Nat} {B B' : Int} {r : List Int} {k : Nat} {v : Int} (h : RowOk w B r) (hk : k < w) (hB : B ≤ B') (v0 : 0 ≤ v) (v1 : v < B') : RowOk w B' (r.take k ++ v :: r.drop (k + 1)) := by
  obtain ⟨rfl, hb⟩ := h
  refine ⟨by rw [List.length_append, List.length_take, List.length_cons, List.length_drop]; omega, fun x hx => ?_⟩
  rcases List.mem_append.mp hx with hx | hx
  · have := hb x (List.mem_of_mem_take hx); exact ⟨this.1, by omega⟩
  · rcases List.mem_cons.mp hx with rfl | hx
    · exact ⟨v0, v1⟩
    · have := hb x (List.mem_of_mem_drop hx); exact ⟨this.1, by omega⟩
/-! ### the bag's making -/
def S__law_bag : FSpec := fun args Q _ => ∃ ns : List Int, args = [.fz (.scr ns)] ∧ (∀ z ∈ ns, Builtin.Int.intBits z ≤ 1048576) ∧ ns.length ≤ 63 ∧ ∀ o, BagOk o 0 → Q (.ow o) args
theorem mS__law_bag : MonoF S__law_bag := ⟨fun h _ ⟨o, a, b, c, q⟩ => ⟨o, a, b, c, fun x y => h _ _ (q x y)⟩⟩
theorem lp__law_bag (K : Ks) (a b : Option Val) (hK : ∀ (g s : Int) (o : Option Val), 0 ≤ s → s < 2147483648 → K.nx [a, b, o, some (.fz (.int g)), some (.fz (.int s))]) : ∀ (cs : List Int) (g s : Int) (o : Option Val), 0 ≤ s → s < 2147483648 →
    loopW (.n 2) (wSeq (wSet 4 (wOp2 gMod (wBlt gInt1 (wCons (wOp2 gAdd (wOp2 gAdd (wOp2 gMulT (wVar 4) (wC (.int 31))) (wOp2 gMod (wBlt gInt1 (wCons (wVar 2) wNil)) (wC (.int 1000003)))) (wC (.int 11))) wNil)) (wC (.int 2147483647))))
      (wIf (wtAnd (wB (wOp2 gEq (wVar 3) (wC (.int 0)))) (wB (wOp2 gGe (wBlt gAbs (wCons (wVar 2) wNil)) (wOp2 gPow (wC (.int 10)) (wC (.int 18)))))) (wSet 3 (wBlt gAbs (wCons (wVar 2) wNil))) wSkip))
      yesK K (cs.map D.int) [a, b, o, some (.fz (.int g)), some (.fz (.int s))]
  | [], g, s, o, s0, s1 => ⟨True.intro, hK g s o s0 s1⟩
  | c :: cs, g, s, o, s0, s1 => by
    walk_at "lv"
    have p18 : CPow 10 18 := ⟨by decide, by decide, by decide⟩
    obtain ⟨f1, f2⟩ := fm_nn (i := s * 31 + c.fmod 1000003 + 11) (j := 2147483647) (by decide)
    generalize (s * 31 + c.fmod 1000003 + 11).fmod 2147483647 = s' at f1 f2 ⊢
    have bs : Builtin.Int.intBits s ≤ 32 := bits31 (by omega) (by omega)
    have b31 : Builtin.Int.intBits 31 ≤ 32 := bits31 (by decide) (by decide)
    refine ⟨by unfold CMulX; omega, by decide, by decide, iteB (fun _ => ⟨p18, iteB (fun _ => ?_) fun _ => ?_⟩) fun _ => ?_⟩
    · exact lp__law_bag K a b hK cs _ _ _ (by omega) (by omega)
    · exact lp__law_bag K a b hK cs _ _ _ (by omega) (by omega)
    · exact lp__law_bag K a b hK cs _ _ _ (by omega) (by omega)
theorem kp__law_bag : Keeps S__law_bag [] 1 5 w__law_bag where
  fit := fun args Q E ⟨o, a, _⟩ => a ▸ fit1
  run := fun args Q E ⟨ns, a, hz, hl, q⟩ => by
    subst a
    unfold w__law_bag
    refine seq_k fun K1 hn hr hb hct he => ?_
    unfold wLc
    walk_at "lv"
    simp only [wipeE, List.set_cons_zero, List.set_cons_succ]
    have hcs : ∃ cs : List Int, cutD (ns.map D.int) none (some 63) = cs.map D.int ∧ (∀ c ∈ cs, Builtin.Int.intBits c ≤ 1048576) ∧ cs.length ≤ 63 := by
      refine ⟨ns.take 63, ?_, fun c hc => hz c (List.mem_of_mem_take hc), by rw [List.length_take]; omega⟩
      rw [show (63 : Int) = ((63 : Nat) : Int) from rfl, cut_take, List.map_take]
    obtain ⟨cs, ec, hc, cl⟩ := hcs
    rw [ec]
    refine cw_map id True.intro _ (fun d hd => ?_) (by rw [List.length_map, sizeLine_eq]; omega) ?_
    · obtain ⟨c, hc, rfl⟩ := List.mem_map.mp hd
      exact ⟨_, rfl, rfl, fun G g => by walk_at "lv"; exact g⟩
    rw [List.map_id]
    refine hn _ (seq_k fun K2 hn2 hr2 hb2 hct2 he2 => ?_)
    walk_at "lv"
    refine hn2 _ (seq_k fun K3 hn3 hr3 hb3 hct3 he3 => ?_)
    walk_at "lv"
    refine hn3 _ (seq_k fun K4 hn4 hr4 hb4 hct4 he4 => ?_)
    have fin : ∀ (g s : Int) (o : Option Val) (cv : Val), cv = .fz (.lst (cs.map D.int)) → 0 ≤ s → s < 2147483648 → K4.nx [some (.fz (.scr ns)), some cv, o, some (.fz (.int g)), some (.fz (.int s))] := fun g s o cv ecv s0 s1 => by
      subst ecv
      refine hn4 _ ?_
      walk_at "lv"
      have sz := sizeLine_eq
      exact ⟨by omega, q _ ⟨g, s, 0, cs, rfl, s0, s1, Int.le_refl 0, Int.le_refl 0, hc⟩⟩
    walk_at "lv"
    exact lp__law_bag K4 _ _ (fun g s o s0 s1 => fin g s o _ rfl s0 s1) cs 0 7 none (by decide) (by decide)
def EntOk (B : Int) (x : Option Int) : Prop := ∀ i, x = some i → 0 ≤ i ∧ i < B
theorem EntOk.some {B i : Int} (h0 : 0 ≤ i) (h1 : i < B) : EntOk B (some i) := fun j e => by cases e; exact ⟨h0, h1⟩
theorem EntOk.none {B : Int} : EntOk B none := fun j e => nomatch e
def NoN (b : Bool) (x : Option Int) : Prop := b = false → x ≠ none
structure HighOk (w : Nat) (B : Int) (h : High) : Prop where
  len : h.length = w
  bd : ∀ x ∈ h, EntOk B x
theorem HighOk.mono {w : Nat} {B B' : Int} {h : High} (hh : HighOk w B h) (k : B ≤ B') : HighOk w B' h := ⟨hh.len, fun x hx i e => by have := hh.bd x hx i e; exact ⟨this.1, by omega⟩⟩
def S__law_is_integer : FSpec := S_is_integer
theorem mS__law_is_integer : MonoF S__law_is_integer := mS_is_integer
theorem kp__law_is_integer : Keeps S__law_is_integer [] 1 1 w__law_is_integer := kp_is_integer
/-! ### _law_is_high, of a high row -/
def S__law_is_high : FSpec := fun args Q _ => ∃ (h : High) (w : Nat), args = [.fz (highD h), .fz (.int w)] ∧ h.length = w ∧ w ≤ 1000 ∧ HNN h ∧ Q (.fz (.bl true)) args
theorem mS__law_is_high : MonoF S__law_is_high := ⟨fun h _ ⟨w, o, a, b, c, e, q⟩ => ⟨w, o, a, b, c, e, h _ _ q⟩⟩
theorem kp__law_is_high : Keeps S__law_is_high [] 2 3 (w__law_is_high S__law_is_integer) where
  fit := fun args Q E ⟨w, xs, a, _⟩ => a ▸ fit2
  run := fun args Q E ⟨r, w, a, h1, hw, h0, q⟩ => by
    subst a
    unfold w__law_is_high wLc
    have ty : (highD r).ty = some .tup := rfl
    simp_all! only [ty]
    simp only [isaT, decide_true, Bool.not_true]
    rw [List.length_map, h1]
    refine iteB (fun h => (nomatch h)) fun _ => iteB (fun h => ?_) fun _ => ?_
    · simp at h
    · have sz := sizeLine_eq
      simp only [wipeE, List.set_cons_zero, List.set_cons_succ]
      refine cw_map (fun _ => .bl true) True.intro _ (fun d hd => ?_) (by rw [List.length_map]; omega) ?_
      · obtain ⟨x, hx, rfl⟩ := List.mem_map.mp hd
        refine ⟨_, rfl, rfl, fun G g => ?_⟩
        simp only [List.set_cons_zero, List.set_cons_succ] at g
        cases x with
        | none =>
          simp_all! only [entD]
          exact g
        | some x =>
          simp_all! only [entD, S__law_is_integer, S_is_integer]
          refine ⟨rfl, ?_⟩
          simp_all! only [isInt]
          rw [decide_eq_true (h0 _ hx x rfl)]
          exact g
      · refine ⟨List.replicate r.length true, ?_, ?_⟩
        · rw [List.map_map]
          simp [Function.comp_def, List.map_const']
        · rw [show (List.replicate r.length true).all id = true by simp]
          exact q
def S__law_below : FSpec := fun args Q _ => ∃ a b : High, args = [.fz (highD a), .fz (highD b)] ∧ a.length = b.length ∧ b.length ≤ 1000 ∧ Q (.fz (.bl (under a b))) args
theorem mS__law_below : MonoF S__law_below := ⟨fun h _ ⟨d, a, b, c, e, q⟩ => ⟨d, a, b, c, e, h _ _ q⟩⟩
theorem lp_below (K : Ks) (a b : High) (hl : a.length = b.length) : ∀ (j i : Nat) (o : Option Val), i + j = b.length → (under (a.drop i) (b.drop i) = true → ∀ o, K.nx [some (.fz (highD a)), some (.fz (highD b)), o]) → (under (a.drop i) (b.drop i) = false → ∀ o, K.rt (.fz (.bl false)) [some (.fz (highD a)), some (.fz (highD b)), o]) →
    loopW (.n 2) (wIf (wtAnd (wB (wOp2 gIsNotN (wOp2 gIx (wVar 1) (wVar 2)) (wC .non))) (wtOr (wB (wOp2 gIsN (wOp2 gIx (wVar 0) (wVar 2)) (wC .non))) (wB (wOp2 gGt (wOp2 gIx (wVar 0) (wVar 2)) (wOp2 gIx (wVar 1) (wVar 2))))))
  (wRet [] (wC (.bl false)))
  wSkip) yesK K (rngD (i : Int) j) [some (.fz (highD a)), some (.fz (highD b)), o]
  | 0, i, o, e, q, _ => ⟨True.intro, q (by rw [List.drop_eq_nil_of_le (by omega : b.length ≤ i)]; unfold under; simp) o⟩
  | j + 1, i, o, e, q, q' => by
    have ha := List.drop_eq_getElem_cons (l := a) (i := i) (by omega)
    have hb := List.drop_eq_getElem_cons (l := b) (i := i) (by omega)
    have eu : under (a.drop i) (b.drop i) = (leB a[i] b[i] && under (a.drop (i + 1)) (b.drop (i + 1))) := by rw [ha, hb, under_cons]
    rw [eu] at q q'
    have a1 : L2.atI (a.map entD) (i : Int) = some (entD a[i]) := at_nat (by rw [List.getElem?_map, List.getElem?_eq_getElem (by omega)]; rfl)
    have b1 : L2.atI (b.map entD) (i : Int) = some (entD b[i]) := at_nat (by rw [List.getElem?_map, List.getElem?_eq_getElem (by omega)]; rfl)
    generalize a[i] = x at *
    generalize b[i] = y at *
    have go : leB x y = true → loopW (.n 2) (wIf (wtAnd (wB (wOp2 gIsNotN (wOp2 gIx (wVar 1) (wVar 2)) (wC .non))) (wtOr (wB (wOp2 gIsN (wOp2 gIx (wVar 0) (wVar 2)) (wC .non))) (wB (wOp2 gGt (wOp2 gIx (wVar 0) (wVar 2)) (wOp2 gIx (wVar 1) (wVar 2))))))
  (wRet [] (wC (.bl false)))
  wSkip) yesK K (rngD ((i : Int) + 1) j) [some (.fz (highD a)), some (.fz (highD b)), some (.fz (.int i))] := fun h => by
      rw [h, Bool.true_and] at q q'
      have ih := lp_below K a b hl j (i + 1) (some (.fz (.int i))) (by omega) q q'
      rw [show ((i + 1 : Nat) : Int) = (i : Int) + 1 by omega] at ih
      exact ih
    have no : leB x y = false → ∀ o, K.rt (.fz (.bl false)) [some (.fz (highD a)), some (.fz (highD b)), o] := fun h => q' (by rw [h]; rfl)
    rw [rngD]
    simp_all! only [b1, a1]
    cases y with
    | none => simp_all! only [entD]; exact go rfl
    | some y =>
      cases x with
      | none => simp_all! only [entD]; exact no rfl _
      | some x =>
        simp_all! only [entD]
        refine iteB (fun hh => no (decide_eq_false (by have := of_decide_eq_true hh; omega)) _) fun hh => go (decide_eq_true (by have := of_decide_eq_false hh; omega))
theorem kp__law_below : Keeps S__law_below [] 2 3 w__law_below where
  fit := fun args Q E ⟨w, xs, a, _⟩ => a ▸ fit2
  run := fun args Q E ⟨a, b, e, hl, hl2, q⟩ => by
    subst e
    unfold w__law_below
    refine seq_k fun K1 hn hr hb hct he => ?_
    walk_at "lv"
    refine ⟨by rw [List.length_map]; unfold okR; omega, ?_⟩
    rw [List.length_map, Int.toNat_natCast]
    refine lp_below K1 a b hl b.length 0 none (by omega) (fun h o => hn _ ?_) (fun h o => ?_)
    · walk_at "lv"
      have h : under a b = true := h
      rw [← h]; exact q
    · rw [hr]
      walk_at "lv"
      have h : under a b = false := h
      rw [← h]; exact q
theorem row_ok {r : List Int} {w : Nat} (hl : r.length = w) (h1 : 1 ≤ w) (h8 : w ≤ 8) (h0 : ∀ x ∈ r, 0 ≤ x) {v : D} (hv : v = .non ∨ v = .int w) : isRowD (rowD r) v = true := by
  have e : (r.map D.int).all entOk = true := by
    rw [List.all_map, List.all_eq_true]
    intro x hx
    exact decide_eq_true (h0 x hx)
  simp only [isRowD]
  rw [List.length_map, hl, decide_eq_true h1, decide_eq_true h8, e]
  rcases hv with rfl | rfl
  · rfl
  · show (true && true && decide ((w : Int) = w) && true) = true
    rw [decide_eq_true rfl]; rfl
theorem high_ok {h : High} {w : Nat} (hl : h.length = w) (h1 : 1 ≤ w) (h8 : w ≤ 8) (h0 : HNN h) {v : D} (hv : v = .non ∨ v = .int w) : isHighD (highD h) v = true := by
  have e : (h.map entD).all entOkH = true := by
    rw [List.all_map, List.all_eq_true]
    intro x hx
    cases x with
    | none => rfl
    | some x => exact decide_eq_true (h0 _ hx x rfl)
  simp only [isHighD]
  rw [List.length_map, hl, decide_eq_true h1, decide_eq_true h8, e]
  rcases hv with rfl | rfl
  · rfl
  · show (true && true && decide ((w : Int) = w) && true) = true
    rw [decide_eq_true rfl]; rfl
theorem HighOk.nn {w : Nat} {B : Int} {h : High} (hh : HighOk w B h) : HNN h := fun x hx i e => (hh.bd x hx i e).1
theorem plainL_ents : ∀ h : High, plainL (h.map entD) = true
  | [] => rfl
  | none :: h => by show (_ && plainL (h.map entD)) = true; rw [plainL_ents h]; rfl
  | some i :: h => by show (_ && plainL (h.map entD)) = true; rw [plainL_ents h]; rfl
theorem plainL_highs : ∀ hs : List High, plainL (hs.map highD) = true
  | [] => rfl
  | h :: hs => by show (plainL (h.map entD) && plainL (hs.map highD)) = true; rw [plainL_ents, plainL_highs hs]; rfl
/-! ### high rows under == and in -/
theorem lay_ents : ∀ r : High, PyData.canLayAll0 (pdL (r.map entD)) = true
  | [] => rfl
  | none :: r => by show (true && PyData.canLayAll0 (pdL (r.map entD))) = true; rw [lay_ents r]; rfl
  | some x :: r => by show (true && PyData.canLayAll0 (pdL (r.map entD))) = true; rw [lay_ents r]; rfl
theorem lay_highs : ∀ rows : List High, PyData.canLayAll0 (pdL (rows.map highD)) = true
  | [] => rfl
  | r :: rows => by show (PyData.canLayAll0 (pdL (r.map entD)) && PyData.canLayAll0 (pdL (rows.map highD))) = true; rw [lay_ents, lay_highs rows]; rfl
theorem deep_ents : ∀ r : High, PyData.depthAll (pdL (r.map entD)) = 0
  | [] => rfl
  | none :: r => by show max 0 (PyData.depthAll (pdL (r.map entD))) = 0; rw [deep_ents r]; rfl
  | some x :: r => by show max 0 (PyData.depthAll (pdL (r.map entD))) = 0; rw [deep_ents r]; rfl
theorem deep_highs : ∀ rows : List High, PyData.depthAll (pdL (rows.map highD)) ≤ 1
  | [] => Nat.zero_le _
  | r :: rows => by
    show max (PyData.depthAll (pdL (r.map entD)) + 1) (PyData.depthAll (pdL (rows.map highD))) ≤ 1
    rw [deep_ents]
    exact Nat.max_le.mpr ⟨Nat.le_refl _, deep_highs rows⟩
theorem okE_high (r : High) : (highD r).okE = true := by
  show (plainL (r.map entD) && (PyData.canLayAll0 (pdL (r.map entD)) && decide (PyData.depthAll (pdL (r.map entD)) + 1 ≤ 64))) = true
  rw [plainL_ents, lay_ents, deep_ents]; rfl
theorem okE_highs (rows : List High) : (D.lst (rows.map highD)).okE = true := by
  show (plainL (rows.map highD) && (PyData.canLayAll0 (pdL (rows.map highD)) && decide (PyData.depthAll (pdL (rows.map highD)) + 1 ≤ 64))) = true
  have := deep_highs rows
  rw [plainL_highs, lay_highs, decide_eq_true (by omega)]; rfl
theorem eqv_ent : ∀ x y : Option Int, PyData.eqv (entD x).pd (entD y).pd = decide (x = y)
  | none, none => rfl
  | none, some _ => rfl
  | some _, none => rfl
  | some a, some b => by
    show (a == b) = decide (some a = some b)
    by_cases h : a = b
    · simp [h]
    · simp [h]
theorem eqv_ents : ∀ a b : High, PyData.eqvAll (pdL (a.map entD)) (pdL (b.map entD)) = decide (a = b)
  | [], [] => by simp [pdL, PyData.eqvAll]
  | [], _ :: _ => by simp [pdL, PyData.eqvAll]
  | _ :: _, [] => by simp [pdL, PyData.eqvAll]
  | x :: a, y :: b => by
    show (PyData.eqv (entD x).pd (entD y).pd && PyData.eqvAll (pdL (a.map entD)) (pdL (b.map entD))) = decide (x :: a = y :: b)
    rw [eqv_ent, eqv_ents a b]
    by_cases h : x = y
    · by_cases h' : a = b
      · simp [h, h']
      · simp [h, h']
    · simp [h]
theorem eqv_high (a b : High) : eqvD (highD a) (highD b) = decide (a = b) := eqv_ents a b
theorem eqv_highsL : ∀ K L : List High, PyData.eqvAll (pdL (K.map highD)) (pdL (L.map highD)) = decide (K = L)
  | [], [] => by simp [pdL, PyData.eqvAll]
  | [], _ :: _ => by simp [pdL, PyData.eqvAll]
  | _ :: _, [] => by simp [pdL, PyData.eqvAll]
  | x :: a, y :: b => by
    show (PyData.eqvAll (pdL (x.map entD)) (pdL (y.map entD)) && PyData.eqvAll (pdL (a.map highD)) (pdL (b.map highD))) = decide (x :: a = y :: b)
    rw [eqv_ents, eqv_highsL a b]
    by_cases h : x = y
    · by_cases h' : a = b
      · simp [h, h']
      · simp [h, h']
    · simp [h]
theorem eqv_highs (K L : List High) : eqvD (.lst (K.map highD)) (.lst (L.map highD)) = decide (K = L) := eqv_highsL K L
theorem any_highs (a : High) : ∀ rows : List High, ((pdL (rows.map highD)).any fun z => PyData.eqv z (highD a).pd) = decide (a ∈ rows)
  | [] => by simp [pdL]
  | r :: rows => by
    show (PyData.eqvAll (pdL (r.map entD)) (pdL (a.map entD)) || (pdL (rows.map highD)).any fun z => PyData.eqv z (highD a).pd) = decide (a ∈ r :: rows)
    rw [eqv_ents, any_highs a rows]
    by_cases h : r = a
    · simp [h]
    · have h' : ¬ a = r := fun z => h z.symm
      simp [h, h']
theorem in_highs (a : High) (rows : List High) : inD (highD a) (.lst (rows.map highD)) = some (decide (a ∈ rows)) := by
  simp only [inD]
  rw [any_highs]
def keyN : Option Int → NestedKey
  | none => .tup [.num 1, .num 0]
  | some e => .tup [.num 0, .num e]
def highN (h : High) : NestedKey := .tup (h.map keyN)
theorem nkD_keyN : ∀ x, nkD (keyN x) = keyE x
  | none => rfl
  | some _ => rfl
theorem nkDs_map : ∀ h : High, nkDs (h.map keyN) = h.map keyE
  | [] => rfl
  | x :: h => by rw [List.map_cons, nkDs, nkD_keyN, nkDs_map h]; rfl
theorem nkD_highN (h : High) : nkD (highN h) = keyD h := by
  show D.tup (nkDs (h.map keyN)) = _
  rw [nkDs_map]
theorem cmp_keyN : ∀ x y, cmpK (keyN x) (keyN y) = true
  | none, none => rfl
  | none, some _ => rfl
  | some _, none => rfl
  | some _, some _ => rfl
theorem cmp_keys : ∀ a b : High, cmpKs (a.map keyN) (b.map keyN) = true
  | [], [] => rfl
  | [], _ :: _ => rfl
  | _ :: _, [] => rfl
  | x :: a, y :: b => by
    show (cmpK (keyN x) (keyN y) && cmpKs (a.map keyN) (b.map keyN)) = true
    rw [cmp_keyN, cmp_keys a b]; rfl
theorem depth_keys : ∀ h : High, NestedKey.depthAll (h.map keyN) ≤ 1
  | [] => Nat.zero_le _
  | none :: h => by
    have := depth_keys h
    show max (NestedKey.depth (keyN none)) (NestedKey.depthAll (h.map keyN)) ≤ 1
    exact Nat.max_le.mpr ⟨by decide, this⟩
  | some x :: h => by
    have := depth_keys h
    show max (NestedKey.depth (keyN (some x))) (NestedKey.depthAll (h.map keyN)) ≤ 1
    exact Nat.max_le.mpr ⟨Nat.le_refl 1, this⟩
theorem beq_keyN : ∀ x y, NestedKey.beq (keyN x) (keyN y) = decide (x = y)
  | none, none => by decide
  | none, some y => by simp [keyN, NestedKey.beq, NestedKey.beqAll]
  | some y, none => by simp [keyN, NestedKey.beq, NestedKey.beqAll]
  | some x, some y => by simp [keyN, NestedKey.beq, NestedKey.beqAll]
theorem ge_keyN : ∀ x y, x ≠ y → ordK (fun i j => decide (j ≤ i)) (fun a b => decide (a ≥ b)) (keyN x) (keyN y) = !ltE x y
  | none, none, h => absurd rfl h
  | none, some y, _ => by simp [keyN, ordK, ordKs, NestedKey.beq, ltE]
  | some y, none, _ => by simp [keyN, ordK, ordKs, NestedKey.beq, ltE]
  | some x, some y, h => by
    have : x ≠ y := fun e => h (by rw [e])
    simp [keyN, ordK, ordKs, NestedKey.beq, ltE, this]
    by_cases hh : x < y
    · rw [decide_eq_true hh, decide_eq_false (by omega)]; rfl
    · rw [decide_eq_false hh, decide_eq_true (by omega)]; rfl
theorem ge_keys : ∀ a b : High, a.length = b.length → ordKs (fun i j => decide (j ≤ i)) (fun a b => decide (a ≥ b)) (a.map keyN) (b.map keyN) = !ltH a b
  | [], [], _ => rfl
  | [], _ :: _, h => nomatch h
  | _ :: _, [], h => nomatch h
  | x :: a, y :: b, h => by
    rw [List.map_cons, List.map_cons, ordKs, beq_keyN, ge_keys a b (Nat.succ.inj h)]
    show _ = !(if x = y then ltH a b else ltE x y)
    by_cases e : x = y
    · simp [e]
    · rw [if_neg (by simpa using e), if_neg e, ge_keyN x y e]
theorem gGeK_keys {a b : High} {Q : Rv → Prop} (h : a.length = b.length) (q : Q (.fz (.bl (!ltH a b)))) : gGeK (keyD a) (keyD b) Q :=
  ⟨highN a, highN b, (nkD_highN a).symm, (nkD_highN b).symm, cmp_keys a b, by
    have := depth_keys a
    show NestedKey.depthAll (a.map keyN) + 1 ≤ 8
    omega, by
    show Q (.fz (.bl (ordKs _ _ (a.map keyN) (b.map keyN))))
    rw [ge_keys a b h]; exact q⟩
theorem lp_each {tg : Tg} {body : SW} {keep : KeepE} {K : Ks} (env : Option Val → En) (hk : ∀ o, keep (env o)) (hK : ∀ o, K.nx (env o)) : ∀ ds : List D, (∀ d ∈ ds, ∀ o, ∃ e1, bindT tg d (env o) = some e1 ∧ ∀ K' : Ks, (∀ o, K'.nx (env o)) → body K' e1) → ∀ o, loopW tg body keep K ds (env o)
  | [], _, o => ⟨hk o, hK o⟩
  | d :: ds, h, o =>
    let ⟨e1, b, hb⟩ := h d List.mem_cons_self o
    ⟨hk o, e1, b, hb _ fun o' => lp_each env hk hK ds (fun x hx => h x (List.mem_cons_of_mem _ hx)) o'⟩
theorem okE_nil : (D.lst []).okE = true := by decide +kernel
theorem eqv_nil : eqvD (.lst []) (.lst []) = true := by decide +kernel
theorem nodup_len {α : Type} [DecidableEq α] : ∀ {K rows : List α}, K.Nodup → (∀ r ∈ K, r ∈ rows) → K.length ≤ rows.length
  | [], _, _, _ => Nat.zero_le _
  | x :: K, rows, hn, h => by
    have hn := List.nodup_cons.mp hn
    have hx := h x List.mem_cons_self
    have := nodup_len (K := K) (rows := rows.erase x) hn.2 fun r hr => (List.mem_erase_of_ne (show r ≠ x from fun z => by subst z; exact hn.1 hr)).mpr (h r (List.mem_cons_of_mem _ hr))
    rw [List.length_erase_of_mem hx] at this
    have p : 0 < rows.length := List.length_pos_of_mem hx
    rw [List.length_cons]; omega
theorem Great.len {hs K : List High} (h : Great hs K) : K.length ≤ hs.length :=
  nodup_len (h.srt.imp fun {a b} z e => by subst e; rw [ltH_irr] at z; cases z) fun r hr => ((h.mem r).mp hr).1
theorem great_nil {K : List High} (h : Great [] K) : K = [] := by
  cases K with
  | nil => rfl
  | cons r K => exact nomatch ((h.mem r).mp List.mem_cons_self).1
theorem rev_map {α β : Type} (f : α → β) (l : List α) : (l.map f).reverse = l.reverse.map f := (List.map_reverse).symm
theorem mapH_inj {a b : List High} (h : a.map highD = b.map highD) : a = b := by
  have := congrArg (List.map unH) h
  rw [List.map_map, List.map_map, show unH ∘ highD = id from funext unH_high, List.map_id, List.map_id] at this
  exact this
end LV


set_option Elab.async false
set_option linter.all false
set_option maxRecDepth 100000
set_option maxHeartbeats 400000
set_option exponentiation.threshold 10000
namespace LV
open PySem PySem.Spec L2
open PySem.W (dataLt dataLe AllAlike Sortable alike alikeAll dataLt_cons dataLt_tuple dataLt_ii keyToksAll)
open PyProof.Rows (itemOrd lex_irrefl)
/-- the odd item of each way -/
def oddM (r : List Int) (p : Nat) (x : D) : D := .tup ((r.map D.int).take p ++ [x] ++ (r.map D.int).drop (p + 1))
def oddD (r : List Int) (p : Nat) : Nat → D
  | 0 => .lst (r.map D.int)
  | 1 => oddM r p (.int (-1))
  | 2 => oddM r p (.bl true)
  | 3 => oddM r p .non
  | 4 => oddM r p (.str "1")
  | 5 => oddM r p (.tup [.int 0])
  | 6 => .tup (r.map D.int ++ [.int 0])
  | 7 => .tup ((r.map D.int).take (r.length - 1))
  | 8 => .tup []
  | 9 => .tup (List.replicate 9 (.int 0))
  | 10 => .non
  | 11 => .str ""
  | _ => .int 5
def oddR (r : List Int) (p : Nat) : Nat → Rv
  | 0 => .ow (.lst (r.map D.int))
  | k => .fz (oddD r p k)
theorem cut_last {ds : List D} : cutD ds none (some (-1)) = ds.take (ds.length - 1) := by
  unfold cutD
  rw [HT.sIx_none]
  have e : HT.sIx ds.length ds.length (some (-1)) = ds.length - 1 := by
    unfold HT.sIx
    simp
    omega
  rw [e]; simp
def S__law_odd : FSpec := fun args Q _ => ∃ (r : List Int) (p k : Nat), args = [.fz (rowD r), .fz (.int p), .fz (.int k)] ∧ p < r.length ∧ r.length ≤ 8 ∧ k < 13 ∧ Q (oddR r p k) args
theorem mS__law_odd : MonoF S__law_odd := ⟨fun h _ ⟨l, v, k, a, b, c, d, q⟩ => ⟨l, v, k, a, b, c, d, h _ _ q⟩⟩
theorem kp__law_odd : Keeps S__law_odd [] 3 4 w__law_odd where
  fit := fun args Q E ⟨l, v, k, a, _⟩ => a ▸ fit3
  run := fun args Q E ⟨r, p, k, a, hp, h8, hk, q⟩ => by
    subst a
    unfold w__law_odd
    have sz := sizeLine_eq
    have ep : (p : Int) + 1 = ((p + 1 : Nat) : Int) := by omega
    refine seq_k fun K1 hn hr hb hct he => ?_
    walk_at "lv"
    refine iteB (fun h => ?_) fun h => ?_
    · have h : k = 0 := by have h : (k : Int) = 0 := (by simpa using h); omega
      subst h
      rw [hr]
      walk_at "lv"
      exact q
    have h0 : k ≠ 0 := by simpa using h
    refine hn _ (seq_k fun K2 hn2 hr2 hb2 hct2 he2 => ?_)
    walk_at "lv"
    refine iteB (fun h => ?_) fun h => ?_
    · have h5 : k < 6 := by have := of_decide_eq_true h; omega
      have hx : ∃ x, L2.atI [D.tup [D.int (-1)], D.tup [D.bl true], D.tup [D.non], D.tup [D.str (Str.ofString "1")], D.tup [D.tup [D.int 0]]] ((k : Int) - 1) = some (.tup [x]) ∧ oddR r p k = .fz (oddM r p x) := by
        rcases (by omega : k = 1 ∨ k = 2 ∨ k = 3 ∨ k = 4 ∨ k = 5) with rfl | rfl | rfl | rfl | rfl <;> exact ⟨_, rfl, rfl⟩
      obtain ⟨x, hx, ex⟩ := hx
      rw [ex] at q
      refine ⟨by omega, by omega, by omega, by omega, by omega, by omega, by omega, ?_⟩
      rw [ep]
      simp_all! only [hx, cut_take, cut_drop]
      rw [hr2]
      walk_at "lv"
      refine ⟨by rw [List.length_take, List.length_map]; omega, by rw [List.length_append, List.length_take, List.length_drop, List.length_map, List.length_singleton]; omega, q⟩
    have h6 : 6 ≤ k := by have := of_decide_eq_false h; omega
    refine hn2 _ (seq_k fun K3 hn3 hr3 hb3 hct3 he3 => ?_)
    walk_at "lv"
    refine iteB (fun h => ?_) fun h => ?_
    · have h : k = 6 := by have h : (k : Int) = 6 := (by simpa using h); omega
      subst h
      rw [hr3]
      walk_at "lv"
      exact ⟨by omega, by rw [List.length_map]; omega, q⟩
    have n6 : k ≠ 6 := by have h : ¬ (k : Int) = 6 := (by simpa using h); omega
    refine hn3 _ (seq_k fun K4 hn4 hr4 hb4 hct4 he4 => ?_)
    walk_at "lv"
    refine iteB (fun h => ?_) fun h => ?_
    · have h : k = 7 := by have h : (k : Int) = 7 := (by simpa using h); omega
      subst h
      rw [hr4]
      walk_at "lv"
      rw [cut_last, List.length_map]
      exact q
    have n7 : k ≠ 7 := by have h : ¬ (k : Int) = 7 := (by simpa using h); omega
    refine hn4 _ (seq_k fun K5 hn5 hr5 hb5 hct5 he5 => ?_)
    walk_at "lv"
    refine iteB (fun h => ?_) fun h => ?_
    · have h : k = 8 := by have h : (k : Int) = 8 := (by simpa using h); omega
      subst h
      rw [hr5]
      walk_at "lv"
      exact ⟨by omega, q⟩
    have n8 : k ≠ 8 := by have h : ¬ (k : Int) = 8 := (by simpa using h); omega
    refine hn5 _ (seq_k fun K6 hn6 hr6 hb6 hct6 he6 => ?_)
    walk_at "lv"
    refine iteB (fun h => ?_) fun h => ?_
    · have h : k = 9 := by have h : (k : Int) = 9 := (by simpa using h); omega
      subst h
      rw [hr6]
      walk_at "lv"
      exact ⟨by omega, q⟩
    have n9 : k ≠ 9 := by have h : ¬ (k : Int) = 9 := (by simpa using h); omega
    refine hn6 _ (seq_k fun K7 hn7 hr7 hb7 hct7 he7 => ?_)
    walk_at "lv"
    refine iteB (fun h => ?_) fun h => ?_
    · have h : k = 10 := by have h : (k : Int) = 10 := (by simpa using h); omega
      subst h
      rw [hr7]
      walk_at "lv"
      exact q
    have n10 : k ≠ 10 := by have h : ¬ (k : Int) = 10 := (by simpa using h); omega
    refine hn7 _ (seq_k fun K8 hn8 hr8 hb8 hct8 he8 => ?_)
    walk_at "lv"
    refine iteB (fun h => ?_) fun h => ?_
    · have h : k = 11 := by have h : (k : Int) = 11 := (by simpa using h); omega
      subst h
      rw [hr8]
      walk_at "lv"
      exact q
    have n11 : k ≠ 11 := by have h : ¬ (k : Int) = 11 := (by simpa using h); omega
    refine hn8 _ ?_
    have e12 : k = 12 := by omega
    subst e12
    walk_at "lv"
    exact q
theorem tidyL_ints : ∀ {r : List Int}, (∀ x ∈ r, 0 ≤ x ∧ x < 10 ^ 31) → tidyL (r.map D.int) = true
  | [], _ => rfl
  | x :: r, h => by
    obtain ⟨a, b⟩ := h x List.mem_cons_self
    show (decide (x.natAbs < 10 ^ 40) && tidyL (r.map D.int)) = true
    rw [tidyL_ints fun y hy => h y (List.mem_cons_of_mem _ hy), decide_eq_true (by omega)]; rfl
theorem tidyL_append : ∀ {a b : List D}, tidyL a = true → tidyL b = true → tidyL (a ++ b) = true
  | [], _, _, h => h
  | x :: a, b, h, h' => by
    have h := Bool.and_eq_true_iff.mp h
    show (x.tidy && tidyL (a ++ b)) = true
    rw [h.1, tidyL_append h.2 h']; rfl
theorem nodesL_append : ∀ a b : List D, nodesL (a ++ b) = nodesL a + nodesL b
  | [], b => by simp [nodesL]
  | x :: a, b => by
    show x.nodes + nodesL (a ++ b) = x.nodes + nodesL a + nodesL b
    rw [nodesL_append a b]; omega
theorem nodesL_ints : ∀ r : List Int, nodesL (r.map D.int) = r.length
  | [] => rfl
  | x :: r => by
    show 1 + nodesL (r.map D.int) = r.length + 1
    rw [nodesL_ints r]; omega
theorem all_append_ent {a b : List D} : (a ++ b).all entOk = (a.all entOk && b.all entOk) := List.all_append
/-- is the odd item of way k a row of some width -/
def loneK (w k : Nat) : Bool := !(k == 6 || k == 7) || ((k == 6 && w == 8) || (k == 7 && w == 1))
theorem oddM_bad {r : List Int} {p : Nat} {x v : D} (h : entOk x = false) : isRowD (oddM r p x) v = false := by
  unfold oddM
  simp only [isRowD]
  rw [List.all_append, List.all_append]
  have : [x].all entOk = false := by simp [h]
  rw [this]
  simp
theorem odd_row {r : List Int} {w p k : Nat} (hr : RowOk w (10 ^ 31) r) (w1 : 1 ≤ w) (w8 : w ≤ 8) (hp : p < w) (hk : k < 13) : isRowD (oddD r p k) (.int w) = false ∧ isRowD (oddD r p k) .non = !loneK w k := by
  obtain ⟨hl, hb⟩ := hr
  have ent : ∀ s : List Int, (∀ x ∈ s, 0 ≤ x) → (s.map D.int).all entOk = true := fun s hs => by
    rw [List.all_map, List.all_eq_true]
    intro x hx
    exact decide_eq_true (hs x hx)
  have e0 := ent r fun x hx => (hb x hx).1
  rcases (by omega : k = 0 ∨ k = 1 ∨ k = 2 ∨ k = 3 ∨ k = 4 ∨ k = 5 ∨ k = 6 ∨ k = 7 ∨ k = 8 ∨ k = 9 ∨ k = 10 ∨ k = 11 ∨ k = 12) with rfl | rfl | rfl | rfl | rfl | rfl | rfl | rfl | rfl | rfl | rfl | rfl | rfl
  · exact ⟨rfl, rfl⟩
  · exact ⟨oddM_bad rfl, oddM_bad rfl⟩
  · exact ⟨oddM_bad rfl, oddM_bad rfl⟩
  · exact ⟨oddM_bad rfl, oddM_bad rfl⟩
  · exact ⟨oddM_bad rfl, oddM_bad rfl⟩
  · exact ⟨oddM_bad rfl, oddM_bad rfl⟩
  · constructor
    · simp only [oddD, isRowD, wOk]
      rw [List.length_append, List.length_map, hl, decide_eq_false (p := (((w + [D.int 0].length : Nat) : Int) = w)) (by simp; omega)]
      simp
    · simp only [oddD, isRowD, wOk, loneK]
      rw [List.length_append, List.length_map, hl, List.all_append, e0]
      rcases (by omega : w = 1 ∨ w = 2 ∨ w = 3 ∨ w = 4 ∨ w = 5 ∨ w = 6 ∨ w = 7 ∨ w = 8) with rfl | rfl | rfl | rfl | rfl | rfl | rfl | rfl <;> rfl
  · have et : (r.map D.int).take (r.length - 1) = (r.take (r.length - 1)).map D.int := by rw [List.map_take]
    have e1 := ent (r.take (r.length - 1)) fun x hx => (hb x (List.mem_of_mem_take hx)).1
    have l1 : ((r.take (r.length - 1)).map D.int).length = w - 1 := by rw [List.length_map, List.length_take, hl]; omega
    constructor
    · simp only [oddD, isRowD, wOk]
      rw [et, l1, decide_eq_false (p := (((w - 1 : Nat) : Int) = w)) (by omega)]
      simp
    · simp only [oddD, isRowD, wOk, loneK]
      rw [et, l1, e1]
      rcases (by omega : w = 1 ∨ w = 2 ∨ w = 3 ∨ w = 4 ∨ w = 5 ∨ w = 6 ∨ w = 7 ∨ w = 8) with rfl | rfl | rfl | rfl | rfl | rfl | rfl | rfl <;> rfl
  · exact ⟨rfl, rfl⟩
  · exact ⟨rfl, rfl⟩
  · exact ⟨rfl, rfl⟩
  · exact ⟨rfl, rfl⟩
  · exact ⟨rfl, rfl⟩
/-- a lone odd item is no row; another one is a row of another width -/
theorem odd_tup {r : List Int} {w p k : Nat} (hr : RowOk w (10 ^ 31) r) (w1 : 1 ≤ w) (hk : loneK w k = false) : ∃ ds, oddD r p k = .tup ds ∧ ds.length ≠ w := by
  have hl := hr.len
  have h67 : k = 6 ∨ k = 7 := by
    by_cases h6 : k = 6
    · exact .inl h6
    · by_cases h7 : k = 7
      · exact .inr h7
      · exfalso
        unfold loneK at hk
        simp [h6, h7] at hk
  rcases h67 with rfl | rfl
  · exact ⟨_, rfl, by rw [List.length_append, List.length_map]; simp; omega⟩
  · exact ⟨_, rfl, by rw [List.length_take, List.length_map]; omega⟩
theorem depth_ints : ∀ ns : List Int, PyData.depthAll (ns.map PyData.int) = 0
  | [] => rfl
  | n :: ns => by show max 0 (PyData.depthAll (ns.map PyData.int)) = 0; rw [depth_ints ns]; rfl
mutual
theorem depth_nodes : ∀ d : D, d.pd.depth ≤ d.nodes
  | .non => Nat.zero_le _
  | .bl _ => Nat.zero_le _
  | .int _ => Nat.zero_le _
  | .str _ => Nat.zero_le _
  | .tup ds => Nat.succ_le_succ (depthL_nodes ds)
  | .lst ds => Nat.succ_le_succ (depthL_nodes ds)
  | .scr ns => by show PyData.depthAll (ns.map PyData.int) + 1 ≤ 1; rw [depth_ints]; exact Nat.le_refl _
  | .dct _ _ => Nat.le_refl _
  | .ins _ _ _ => Nat.le_refl _
theorem depthL_nodes : ∀ ds : List D, PyData.depthAll (pdL ds) ≤ nodesL ds
  | [] => Nat.zero_le _
  | d :: ds => by
    have a := depth_nodes d
    have b := depthL_nodes ds
    show max d.pd.depth (PyData.depthAll (pdL ds)) ≤ d.nodes + nodesL ds
    omega
end
theorem oddM_tidy {r : List Int} {w p : Nat} {x : D} (hr : RowOk w (10 ^ 31) r) (w8 : w ≤ 8) (hx : x.tidy = true) (hn : x.nodes ≤ 5) : (oddM r p x).tidy = true ∧ (oddM r p x).nodes ≤ 30 := by
  obtain ⟨hl, hb⟩ := hr
  have t1 : tidyL ((r.map D.int).take p) = true := by rw [← List.map_take]; exact tidyL_ints fun y hy => hb y (List.mem_of_mem_take hy)
  have t2 : tidyL ((r.map D.int).drop (p + 1)) = true := by rw [← List.map_drop]; exact tidyL_ints fun y hy => hb y (List.mem_of_mem_drop hy)
  constructor
  · refine tidyL_append (tidyL_append t1 ?_) t2
    show (x.tidy && true) = true
    rw [hx]; rfl
  · show nodesL ((r.map D.int).take p ++ [x] ++ (r.map D.int).drop (p + 1)) + 1 ≤ 30
    rw [nodesL_append, nodesL_append, ← List.map_take, ← List.map_drop, nodesL_ints, nodesL_ints, List.length_take, List.length_drop]
    show min p r.length + (x.nodes + 0) + (r.length - (p + 1)) + 1 ≤ 30
    omega
theorem odd_tidy {r : List Int} {w p k : Nat} (hr : RowOk w (10 ^ 31) r) (w8 : w ≤ 8) (hk : k < 13) : (oddD r p k).tidy = true ∧ (oddD r p k).nodes ≤ 30 := by
  have hl := hr.len
  have t0 := tidyL_ints hr.bd
  rcases (by omega : k = 0 ∨ k = 1 ∨ k = 2 ∨ k = 3 ∨ k = 4 ∨ k = 5 ∨ k = 6 ∨ k = 7 ∨ k = 8 ∨ k = 9 ∨ k = 10 ∨ k = 11 ∨ k = 12) with rfl | rfl | rfl | rfl | rfl | rfl | rfl | rfl | rfl | rfl | rfl | rfl | rfl
  · exact ⟨t0, by show nodesL (r.map D.int) + 1 ≤ 30; rw [nodesL_ints]; omega⟩
  · exact oddM_tidy hr w8 (by decide) (by decide)
  · exact oddM_tidy hr w8 rfl (by decide)
  · exact oddM_tidy hr w8 rfl (by decide)
  · exact oddM_tidy hr w8 (by decide +kernel) (Nat.le_of_ble_eq_true rfl)
  · exact oddM_tidy hr w8 (by decide) (by decide)
  · exact ⟨tidyL_append t0 (by decide), by show nodesL (r.map D.int ++ [.int 0]) + 1 ≤ 30; rw [nodesL_append, nodesL_ints]; show r.length + 1 + 1 ≤ 30; omega⟩
  · refine ⟨?_, ?_⟩
    · show tidyL ((r.map D.int).take (r.length - 1)) = true
      rw [← List.map_take]; exact tidyL_ints fun y hy => hr.bd y (List.mem_of_mem_take hy)
    · show nodesL ((r.map D.int).take (r.length - 1)) + 1 ≤ 30
      rw [← List.map_take, nodesL_ints, List.length_take]; omega
  · exact ⟨rfl, show (D.tup []).nodes ≤ 30 by decide⟩
  · exact ⟨show (D.tup (List.replicate 9 (.int 0))).tidy = true by decide, show (D.tup (List.replicate 9 (.int 0))).nodes ≤ 30 by decide⟩
  · exact ⟨rfl, show D.non.nodes ≤ 30 by decide⟩
  · exact ⟨show (D.str "").tidy = true by decide +kernel, show 1 ≤ 30 by decide⟩
  · exact ⟨show (D.int 5).tidy = true by decide, show 1 ≤ 30 by decide⟩
theorem gRepr_1 {d : D} {Q : Rv → Prop} : gRepr [d] Q = (d.Shows ∧ Q (.fz (.str d.pd.shown))) := propext ⟨fun ⟨d', e, s, q⟩ => by
  injection e with e _; subst e; exact ⟨s, q⟩, fun ⟨s, q⟩ => ⟨d, rfl, s, q⟩⟩
theorem tidyL_ents : ∀ {r : High}, (∀ x ∈ r, EntOk (10 ^ 31) x) → tidyL (r.map entD) = true
  | [], _ => rfl
  | none :: r, h => by
    show (true && tidyL (r.map entD)) = true
    rw [tidyL_ents fun y hy => h y (List.mem_cons_of_mem _ hy)]; rfl
  | some x :: r, h => by
    obtain ⟨a, b⟩ := h _ List.mem_cons_self x rfl
    show (decide (x.natAbs < 10 ^ 40) && tidyL (r.map entD)) = true
    rw [tidyL_ents fun y hy => h y (List.mem_cons_of_mem _ hy), decide_eq_true (by omega)]; rfl
theorem nodesL_ents : ∀ r : High, nodesL (r.map entD) = r.length
  | [] => rfl
  | none :: r => by
    show 1 + nodesL (r.map entD) = r.length + 1
    rw [nodesL_ents r]; omega
  | some x :: r => by
    show 1 + nodesL (r.map entD) = r.length + 1
    rw [nodesL_ents r]; omega
theorem high_tidy {r : High} {w : Nat} (hr : HighOk w (10 ^ 31) r) (w8 : w ≤ 8) : (highD r).tidy = true ∧ (highD r).nodes ≤ 30 :=
  ⟨tidyL_ents hr.bd, by show nodesL (r.map entD) + 1 ≤ 30; rw [nodesL_ents, hr.len]; omega⟩
theorem shows_t {d : D} (h : d.tidy = true ∧ d.nodes ≤ 30) : d.Shows := shows_of h.1 (Nat.le_trans (depth_nodes _) (by omega)) (by omega)
theorem gNeS_same {s t : Str} {Q : Rv → Prop} (q : Q (.fz (.bl false))) : gNeS (.lst [.str s, .str t]) (.lst [.str s, .str t]) Q :=
  ⟨[s, t], [s, t], rfl, rfl, by rw [decide_eq_true rfl]; exact q⟩
theorem firstBad_rows {w : Nat} (h1 : 1 ≤ w) (h8 : w ≤ 8) : ∀ {rows : List (List Int)} {v : D}, (∀ r ∈ rows, r.length = w ∧ ∀ x ∈ r, 0 ≤ x) → (v = .non ∨ v = .int w) → ∀ rest : List D, firstBad v (rows.map rowD ++ rest) = firstBad (if rows = [] then v else .int w) rest
  | [], v, _, _, rest => by rw [if_pos rfl]; rfl
  | r :: rows, v, h, hv, rest => by
    obtain ⟨a, b⟩ := h r List.mem_cons_self
    rw [List.map_cons, List.cons_append, firstBad, if_pos (row_ok a h1 h8 b hv)]
    show firstBad (.int ((r.map D.int).length : Nat)) (rows.map rowD ++ rest) = _
    rw [List.length_map, a, firstBad_rows h1 h8 (fun x hx => h x (List.mem_cons_of_mem _ hx)) (.inr rfl) rest, if_neg (by simp : ¬ r :: rows = [])]
    by_cases e : rows = []
    · rw [if_pos e]
    · rw [if_neg e]
end LV


set_option Elab.async false
set_option linter.all false
set_option maxRecDepth 100000
set_option maxHeartbeats 400000
set_option exponentiation.threshold 10000
namespace LV
open PySem PySem.Spec L2
open PySem.W (dataLt dataLe AllAlike Sortable alike alikeAll dataLt_cons dataLt_tuple dataLt_ii keyToksAll)
open PyProof.Rows (itemOrd lex_irrefl)
/-! ### greatest_among -/
def S_greatest_among : FSpec := fun args Q _ => ∃ (hs : List High) (w : Nat), args = [.fz (.lst (hs.map highD)), .fz (.int 1000)] ∧ 1 ≤ w ∧ w ≤ 1000 ∧ (∀ h ∈ hs, h.length = w) ∧ hs.length ≤ 100000 ∧ (∀ M : List High, M.Nodup → (∀ m ∈ M, m ∈ hs) → M.length ≤ 1000) ∧ ∀ K, Great hs K → Q (.ow (.lst (K.map highD))) args
theorem mS_greatest_among : MonoF S_greatest_among := ⟨fun h _ ⟨d, w, a, b, c, e, f, g, q⟩ => ⟨d, w, a, b, c, e, f, g, fun K k => h _ _ (q K k)⟩⟩
/-- the loop: L the high rows, descending; M the kept ones so far, descending -/
theorem lp_great (K : Ks) (a c : Option Val) (hs : List High) (w : Nat) (hw : ∀ r ∈ hs, r.length = w) (L : List High) (hsrt : L.Pairwise fun a b => ltH b a = true) (hm : ∀ r, r ∈ L ↔ r ∈ hs) (hl : L.length ≤ 1000) (bnd : ∀ M : List High, M.Nodup → (∀ m ∈ M, m ∈ hs) → M.length ≤ 1000)
    (hK : ∀ (M : List High) (o : Option Val), (∀ r, r ∈ M ↔ r ∈ hs ∧ Max hs r) → (M.Pairwise fun a b => ltH b a = true) → K.nx [a, some (.fz (.int 1000)), c, o, some (.ow (.lst (M.map highD)))]) : ∀ (L1 L2 : List High) (M : List High) (o : Option Val), L = L1 ++ L2 → (∀ r, r ∈ M ↔ r ∈ L1 ∧ Max hs r) → (M.Pairwise fun a b => ltH b a = true) → M.length ≤ L1.length →
    loopW (.n 3) (wIf (wtNot (wTru (wCall S_under_some (wCons (wFrz (wVar 3)) (wCons (wVar 4) wNil)))))
  (wSeq (wApp 4 (wVar 3))
  (wIf (wtAnd (wB (wOp2 gIsNotN (wVar 1) (wC .non))) (wB (wOp2 gGt (wBlt gLen (wCons (wVar 4) wNil)) (wVar 1))))
  wNever
  wSkip))
  wSkip) yesK K (L2.map highD) [a, some (.fz (.int 1000)), c, o, some (.ow (.lst (M.map highD)))]
  | L1, [], M, o, e, hM, sM, lM => ⟨True.intro, hK M o (fun r => by rw [hM, ← hm, e, List.append_nil]) sM⟩
  | L1, r :: L2, M, o, e, hM, sM, lM => by
    have sz := sizeLine_eq
    have ll := congrArg List.length e
    rw [List.length_append, List.length_cons] at ll
    have irr : ∀ {x : High}, ltH x x = true → False := fun {x} z => by rw [ltH_irr] at z; cases z
    obtain ⟨s1, s2, s3⟩ := List.pairwise_append.mp (e ▸ hsrt)
    have rL : r ∈ hs := (hm r).mp (by rw [e]; exact List.mem_append_right _ List.mem_cons_self)
    have nr : r ∉ L1 := fun z => irr (s3 r z r List.mem_cons_self)
    have e1 : L1 ++ [r] ++ L2 = L1 ++ r :: L2 := by rw [List.append_assoc]; rfl
    simp_all! only [S_under_some, wNever]
    refine ⟨r, rfl, M, rfl, ?_⟩
    refine iteB (fun h => ?_) fun h => ?_
    · have h : M.any (under r) = false := by simpa using h
      have mr : Max hs r := fun s hs' sc => Classical.byContradiction fun ne => by
        have s1' : s ∈ L1 := by
          have sL : s ∈ L := (hm s).mpr hs'
          rw [e] at sL
          rcases List.mem_append.mp sL with z | z
          · exact z
          · rcases List.mem_cons.mp z with z | z
            · exact absurd z ne
            · have lt := under_lt ((hw r rL).trans (hw s hs').symm) sc fun z => ne z.symm
              exact (irr (ltH_trans lt ((List.pairwise_cons.mp s2).1 s z))).elim
        -- a greatest one above s stands in M
        obtain ⟨t, ht, c2, m2⟩ := max_above hw _ s hs' (Nat.le_refl _)
        have t1 : t ∈ L1 := by
          have tL : t ∈ L := (hm t).mpr ht
          rw [e] at tL
          rcases List.mem_append.mp tL with z | z
          · exact z
          · by_cases hst : s = t
            · rw [← hst]; exact s1'
            · have lt := under_lt ((hw s hs').trans (hw t ht).symm) c2 hst
              have := s3 s s1' t z
              exact (irr (ltH_trans lt this)).elim
        rw [List.any_eq_false] at h
        exact h t ((hM t).mpr ⟨t1, m2⟩) (under_trans ((hw r rL).trans (hw s hs').symm) ((hw s hs').trans (hw t ht).symm) sc c2)
      have sM' : (M ++ [r]).Pairwise fun a b => ltH b a = true := by
        refine List.pairwise_append.mpr ⟨sM, List.pairwise_singleton _ _, fun x hx y hy => ?_⟩
        rw [List.mem_singleton.mp hy]
        exact s3 x ((hM x).mp hx).1 r List.mem_cons_self
      have bM := bnd (M ++ [r]) (List.nodup_iff_pairwise_ne.mpr (sM'.imp fun {a b} z e => by subst e; exact irr z)) fun m hm' => (hm m).mp (by
        rw [e]
        rcases List.mem_append.mp hm' with z | z
        · exact List.mem_append_left _ ((hM m).mp z).1
        · rw [List.mem_singleton.mp z]; exact List.mem_append_right _ List.mem_cons_self)
      rw [List.length_append, List.length_singleton] at bM
      refine ⟨by rw [List.length_map]; omega, iteB (fun z => ?_) fun _ => ?_⟩
      · rw [List.length_append, List.length_map, List.length_singleton] at z
        have := of_decide_eq_true z
        omega
      have em : M.map highD ++ [highD r] = (M ++ [r]).map highD := by rw [List.map_append]; rfl
      rw [em]
      refine lp_great K a c hs w hw L hsrt hm hl bnd hK (L1 ++ [r]) L2 (M ++ [r]) _ (e.trans e1.symm) (fun x => ?_) ?_ (by rw [List.length_append, List.length_append]; exact Nat.add_le_add_right lM _)
      · rw [List.mem_append, List.mem_append, hM x, List.mem_singleton]
        exact ⟨fun z => z.elim (fun ⟨a, b⟩ => ⟨.inl a, b⟩) fun z => ⟨.inr z, z ▸ mr⟩, fun ⟨a, b⟩ => a.elim (fun a => .inl ⟨a, b⟩) fun a => .inr a⟩
      · refine List.pairwise_append.mpr ⟨sM, List.pairwise_singleton _ _, fun x hx y hy => ?_⟩
        rw [List.mem_singleton.mp hy]
        exact s3 x ((hM x).mp hx).1 r List.mem_cons_self
    · have h : M.any (under r) = true := by simpa using h
      refine lp_great K a c hs w hw L hsrt hm hl bnd hK (L1 ++ [r]) L2 M _ (e.trans e1.symm) (fun x => ?_) sM (by rw [List.length_append]; omega)
      obtain ⟨s, sM', sc⟩ := List.any_eq_true.mp h
      have nm : ¬ Max hs r := fun z => by
        have := z s ((hm s).mp (by rw [e]; exact List.mem_append_left _ ((hM s).mp sM').1)) sc
        exact nr (this ▸ ((hM s).mp sM').1)
      rw [hM x, List.mem_append, List.mem_singleton]
      exact ⟨fun ⟨a, b⟩ => ⟨.inl a, b⟩, fun ⟨a, b⟩ => a.elim (fun a => ⟨a, b⟩) fun a => absurd (a ▸ b) nm⟩
theorem keys_plain : ∀ h : High, plainL (h.map keyE) = true
  | [] => rfl
  | none :: h => by show (_ && plainL (h.map keyE)) = true; rw [keys_plain h]; rfl
  | some i :: h => by show (_ && plainL (h.map keyE)) = true; rw [keys_plain h]; rfl
theorem keys_deep : ∀ h : High, PyData.depthAll (pdL (h.map keyE)) ≤ 1
  | [] => Nat.zero_le _
  | none :: h => Nat.max_le.mpr ⟨Nat.le_refl 1, keys_deep h⟩
  | some i :: h => Nat.max_le.mpr ⟨Nat.le_refl 1, keys_deep h⟩
theorem le_keys {a b : High} (h : a.length = b.length) : dataLe true (fun d => (kfD d).pd) (highD a) (highD b) = !ltH a b := by
  rw [PySem.W.dataLe_eq]
  show (!dataLt (kfD (highD a)).pd (kfD (highD b)).pd) = !ltH a b
  rw [kfD_high, kfD_high, keyD_lt h]
theorem kp_greatest_among : Keeps S_greatest_among [] 2 5 (w_greatest_among S_high_key S_under_some) where
  fit := fun args Q E ⟨xs, w, a, _⟩ => a ▸ fit2
  run := fun args Q E ⟨hs, w, a, w1, w1000, hw, hl, bnd, q⟩ => by
    subst a
    unfold w_greatest_among
    have sz := sizeLine_eq
    refine seq_k fun K1 hn hr1 hb hct he => ?_
    simp_all! only [wDct0]
    refine hn _ (seq_k fun K2 hn2 hr2 hb2 hct2 he2 => ?_)
    walk_at "lv"
    refine lp_dict K2 _ _ hs [] [] none List.nodup_nil (by simpa using hl) fun dd vs o' nd dl dm => hn2 _ (seq_k fun K3 hn3 hr3 hb3 hct3 he3 => ?_)
    have dm : ∀ h, h ∈ dd ↔ h ∈ hs := fun h => by rw [dm h]; simp
    walk_at "lv"
    refine ⟨Nat.zero_le _, hn3 _ (seq_k fun K4 hn4 hr4 hb4 hct4 he4 => ?_)⟩
    have wd : ∀ h ∈ dd, h.length = w := fun h hh => hw h ((dm h).mp hh)
    simp_all! only [wSortK, gListD]
    refine ⟨kfD, fun d hd => ?_, fun d hd => ?_, fun d hd d' hd' => ?_, .inl fun d hd => ?_, fun d hd => ?_, fun out hp hpw => ?_⟩
    · obtain ⟨h, hh, rfl⟩ := List.mem_map.mp hd
      rw [kfD_high]
      exact ⟨h, rfl, by rw [wd h hh]; exact w1000, rfl, rfl⟩
    · obtain ⟨h, hh, rfl⟩ := List.mem_map.mp hd
      rw [kfD_high]
      exact keys_plain h
    · obtain ⟨e, he, rfl⟩ := List.mem_map.mp hd
      obtain ⟨e', he', rfl⟩ := List.mem_map.mp hd'
      obtain ⟨h, hh, rfl⟩ := List.mem_map.mp he
      obtain ⟨h', hh', rfl⟩ := List.mem_map.mp he'
      rw [kfD_high, kfD_high]
      exact keys_alike h h'
    · obtain ⟨e, he, rfl⟩ := List.mem_map.mp hd
      obtain ⟨h, hh, rfl⟩ := List.mem_map.mp he
      rw [kfD_high]
      have := wd h hh
      cases h with
      | nil => rw [List.length_nil] at this; omega
      | cons x h => exact ⟨_, _, rfl⟩
    · obtain ⟨h, hh, rfl⟩ := List.mem_map.mp hd
      rw [kfD_high]
      show PyData.depthAll (pdL (h.map keyE)) + 1 ≤ 64
      have := keys_deep h
      omega
    · have eo : out = (out.map unH).map highD := by
        rw [List.map_map]
        conv => lhs; rw [← List.map_id out]
        refine List.map_congr_left fun d hd => ?_
        obtain ⟨h, hh, rfl⟩ := List.mem_map.mp (hp.mem_iff.mp hd)
        show highD h = highD (unH (highD h))
        rw [unH_high]
      generalize hL : out.map unH = L at eo
      subst eo
      have mL : ∀ r, r ∈ L ↔ r ∈ hs := fun r => by
        rw [← dm r]
        constructor
        · intro hr
          obtain ⟨g, hg, e⟩ := List.mem_map.mp (hp.mem_iff.mp (List.mem_map_of_mem hr))
          rw [← highD_inj e]; exact hg
        · intro hr
          obtain ⟨g, hg, e⟩ := List.mem_map.mp (hp.mem_iff.mpr (List.mem_map_of_mem (f := highD) hr))
          rw [← highD_inj e]; exact hg
      have lL : L.length ≤ 1000 := by
        have := hp.length_eq
        rw [List.length_map, List.length_map] at this
        have := bnd dd nd fun m hm => (dm m).mp hm
        omega
      have ndL : L.Nodup := by
        have h1 : (L.map highD).Nodup := hp.nodup_iff.mpr (List.pairwise_map.mpr (nd.imp fun {a b} ne e => ne (highD_inj e)))
        exact (List.pairwise_map.mp h1).imp fun {a b} ne e => ne (by rw [e])
      have sL : L.Pairwise fun a b => ltH b a = true := by
        refine ((List.pairwise_map.mp hpw).and ndL).imp_of_mem fun {a b} ha hb' ⟨h1, ne⟩ => ?_
        have la := hw a ((mL a).mp ha)
        have lb := hw b ((mL b).mp hb')
        rw [le_keys (la.trans lb.symm)] at h1
        exact ltH_total (la.trans lb.symm) ne (by simpa using h1)
      refine lp_great K4 _ _ hs w hw L sL mL lL bnd (fun M o h1 h2 => hn4 _ ?_) [] L [] o' rfl (fun r => ⟨fun z => (nomatch z), fun z => (nomatch z.1)⟩) .nil (Nat.le_refl _)
      simp_all! only [wRevS]
      rw [show (M.map highD).reverse = M.reverse.map highD from (List.map_reverse).symm]
      exact q M.reverse ⟨fun r => by rw [List.mem_reverse]; exact h1 r, List.pairwise_reverse.mpr h2⟩
end LV


set_option Elab.async false
set_option linter.all false
set_option maxRecDepth 100000
set_option maxHeartbeats 400000
namespace LV
open PySem PySem.Spec L2
/-! ### parts_outside -/
def S_parts_outside : FSpec := fun args Q _ => ∃ (h : High) (r : List Int), args = [.fz (highD h), .fz (rowD r)] ∧ h.length = r.length ∧ r.length ≤ 1000 ∧ Q (.ow (.lst ((partsH h r).map highD))) args
theorem mS_parts_outside : MonoF S_parts_outside := ⟨fun h _ ⟨d, a, b, c, e, q⟩ => ⟨d, a, b, c, e, h _ _ q⟩⟩
theorem cutset {h : High} {i : Nat} {v : Option Int} (hi : i < h.length) : (h.map entD).take i ++ [entD v] ++ (h.map entD).drop (i + 1) = (h.set i v).map entD := by
  rw [List.map_set, List.set_eq_take_append_cons_drop, if_pos (by rw [List.length_map]; exact hi), List.append_assoc]; rfl
theorem lp_parts (K : Ks) (h : High) (r : List Int) (hl : h.length = r.length) (h8 : r.length ≤ 1000) : ∀ (r2 r1 : List Int) (acc : List High) (o3 o4 : Option Val), r = r1 ++ r2 → acc.length ≤ r1.length →
    (∀ o3 o4, K.nx [some (.fz (highD h)), some (.fz (rowD r)), some (.ow (.lst ((acc ++ partsAt h r (List.range' r1.length r2.length)).map highD))), o3, o4]) →
    loopW (.t [3, 4]) (wIf (wB (wOp2 gGt (wVar 4) (wC (.int 0))))
  (wApp 2 (wOp2 gAdd (wOp2 gAdd (wSl (wVar 0) wNoP (wPt (wVar 3))) (wTup (wCons (wOp2 gSub (wVar 4) (wC (.int 1))) wNil))) (wSl (wVar 0) (wPt (wOp2 gAdd (wVar 3) (wC (.int 1)))) wNoP)))
  wSkip) yesK K (enumD (r1.length : Int) (r2.map D.int)) [some (.fz (highD h)), some (.fz (rowD r)), some (.ow (.lst (acc.map highD))), o3, o4]
  | [], r1, acc, o3, o4, e, la, q => ⟨True.intro, by have := q o3 o4; rw [List.length_nil, List.range'_zero, partsAt, List.append_nil] at this; exact this⟩
  | x :: r2, r1, acc, o3, o4, e, la, q => by
    have sz := sizeLine_eq
    have ll := congrArg List.length e
    rw [List.length_append, List.length_cons] at ll
    have hx : r.getD r1.length 0 = x := by
      rw [e, List.getD_eq_getElem?_getD, List.getElem?_append_right (Nat.le_refl _), Nat.sub_self]; rfl
    have e1 : (r1.length : Int) + 1 = ((r1.length + 1 : Nat) : Int) := by omega
    rw [List.map_cons, enumD]
    simp_all! only [cut_take]
    have go : ∀ acc' : List High, acc' = acc ++ (if r.getD r1.length 0 > 0 then [h.set r1.length (some (r.getD r1.length 0 - 1))] else []) → loopW (.t [3, 4]) (wIf (wB (wOp2 gGt (wVar 4) (wC (.int 0))))
        (wApp 2 (wOp2 gAdd (wOp2 gAdd (wSl (wVar 0) wNoP (wPt (wVar 3))) (wTup (wCons (wOp2 gSub (wVar 4) (wC (.int 1))) wNil))) (wSl (wVar 0) (wPt (wOp2 gAdd (wVar 3) (wC (.int 1)))) wNoP)))
        wSkip) yesK K (enumD ((r1.length : Int) + 1) (r2.map D.int)) [some (.fz (highD h)), some (.fz (rowD r)), some (.ow (.lst (acc'.map highD))), some (.fz (.int r1.length)), some (.fz (.int x))] := fun acc' ea => by
      have ih := lp_parts K h r hl h8 r2 (r1 ++ [x]) acc' (some (.fz (.int r1.length))) (some (.fz (.int x))) (by rw [e, List.append_assoc]; rfl) (by
        rw [ea, List.length_append, List.length_append, List.length_singleton]
        split
        · rw [List.length_singleton]; omega
        · rw [List.length_nil]; omega) fun o3 o4 => by
          have := q o3 o4
          rw [List.length_cons, List.range'_succ, partsAt, ← List.append_assoc, ← ea] at this
          rw [List.length_append, List.length_singleton]
          exact this
      rw [List.length_append, List.length_singleton, ← e1] at ih
      exact ih
    refine iteB (fun hp => ?_) fun hp => ?_
    · have hp := of_decide_eq_true hp
      rw [e1]
      simp_all! only [cut_drop]
      refine ⟨by omega, by rw [List.length_take, List.length_map]; omega, by simp; omega, by rw [List.length_map]; omega, ?_⟩
      have cs := cutset (h := h) (i := r1.length) (v := some (x - 1)) (by omega)
      have := go (acc ++ [h.set r1.length (some (x - 1))]) (by rw [hx, if_pos hp])
      rw [List.map_append, show [h.set r1.length (some (x - 1))].map highD = [highD (h.set r1.length (some (x - 1)))] from rfl] at this
      rw [show highD (h.set r1.length (some (x - 1))) = D.tup ((h.map entD).take r1.length ++ [D.int (x - 1)] ++ (h.map entD).drop (r1.length + 1)) from congrArg D.tup cs.symm] at this
      rw [← e1]
      exact this
    · have hp := of_decide_eq_false hp
      exact go acc (by rw [hx, if_neg hp, List.append_nil])
theorem kp_parts_outside : Keeps S_parts_outside [] 2 5 (w_parts_outside S_entries_under) where
  fit := fun args Q E ⟨_, _, a, _⟩ => a ▸ fit2
  run := fun args Q E ⟨h, r, a, hl, h8, q⟩ => by
    subst a
    unfold w_parts_outside
    have sz := sizeLine_eq
    refine seq_k fun K1 hn hr1 hb hct he => ?_
    walk_at "lv"
    refine ⟨rowH r, h, by rw [rowD_high], ?_⟩
    walk_at "lv"
    unfold partsH at q
    refine iteB (fun z => ?_) fun z => ?_
    · have z : under (rowH r) h = false := by simpa using z
      rw [z, if_neg Bool.false_ne_true] at q
      rw [hr1]
      walk_at "lv"
      exact ⟨by omega, q⟩
    · have z : under (rowH r) h = true := by simpa using z
      rw [z, if_pos rfl] at q
      refine hn _ (seq_k fun K2 hn2 hr2 hb2 hct2 he2 => ?_)
      walk_at "lv"
      refine ⟨Nat.zero_le _, hn2 _ (seq_k fun K3 hn3 hr3 hb3 hct3 he3 => ?_)⟩
      simp only [wFor, wEnum]
      walk_at "lv"
      refine lp_parts K3 h r hl h8 r [] [] none none rfl (Nat.le_refl _) fun o3 o4 => hn3 _ ?_
      rw [List.nil_append, List.length_nil, ← List.range_eq_range']
      walk_at "lv"
      exact q
end LV


set_option Elab.async false
set_option linter.all false
set_option maxRecDepth 100000
set_option maxHeartbeats 400000
namespace LV
open PySem PySem.Spec L2
theorem partsAt_len {h : High} {r : List Int} : ∀ is : List Nat, (partsAt h r is).length ≤ is.length
  | [] => Nat.le_refl _
  | i :: is => by
    have := partsAt_len (h := h) (r := r) is
    rw [partsAt, List.length_append, List.length_cons]
    split
    · rw [List.length_singleton]; omega
    · rw [List.length_nil]; omega
theorem parts_len {h : High} {r : List Int} : (partsH h r).length ≤ r.length + 1 := by
  unfold partsH
  split
  · have := partsAt_len (h := h) (r := r) (List.range r.length)
    rw [List.length_range] at this; omega
  · rw [List.length_singleton]; omega
theorem cw_parts (a b c : Option Val) (r : List Int) (w : Nat) (lr : r.length = w) (w8 : w ≤ 8) (Q : List D → En → Prop) : ∀ (L acc : List High), (∀ k ∈ L, k.length = w) → acc.length + 9 * L.length ≤ 100000 → Q ((acc ++ L.flatMap fun k => partsH k r).map highD) [a, b, some (.fz (rowD r)), c, none, none] →
    compW2 (.n 4) (wIt [] (wCall S_parts_outside (wCons (wFrz (wVar 4)) (wCons (wFrz (wVar 2)) wNil)))) (.n 5) (wVar 5) [4, 5] [5] yesK Q (L.map highD) (acc.map highD) [a, b, some (.fz (rowD r)), c, none, none]
  | [], acc, _, _, q => ⟨True.intro, by rw [List.flatMap_nil, List.append_nil] at q; exact q⟩
  | k :: L, acc, hL, hb, q => by
    have sz := sizeLine_eq
    rw [List.length_cons] at hb
    have pl := parts_len (h := k) (r := r)
    refine ⟨True.intro, _, rfl, ?_⟩
    refine (?_ : wIt _ _ _ _ _)
    walk_at "lv"
    refine ⟨k, r, rfl, (hL k List.mem_cons_self).trans lr.symm, by omega, ?_⟩
    walk_at "lv"
    simp only [wipeE, List.set_cons_zero, List.set_cons_succ]
    refine cw_fm (fun _ => true) id True.intro _ _ (fun d hd => ?_) (by rw [List.length_map, List.length_map]; omega) ?_
    · refine ⟨_, rfl, rfl, fun G g => g, fun _ G g => ?_⟩
      walk_at "lv"
      exact g
    · rw [List.filter_eq_self.mpr (fun _ _ => rfl), List.map_id, ← List.map_append]
      simp only [wipeE, List.set_cons_zero, List.set_cons_succ]
      refine cw_parts a b c r w lr w8 Q L (acc ++ partsH k r) (fun x hx => hL x (List.mem_cons_of_mem _ hx)) (by rw [List.length_append]; omega) ?_
      rw [List.flatMap_cons, ← List.append_assoc] at q
      exact q
def S_highs_outside : FSpec := fun args Q E => ∃ hv rows, args = [.fz hv, .fz (.lst rows)] ∧ hv.plain = true ∧ plainL rows = true ∧ (isHighD hv .non = false → E (IR hv) args) ∧
  (isHighD hv .non = true → ∀ v, rows.find? (fun v => !isRowD v (.int (lenD hv))) = some v → E (IR v) args) ∧
  (isHighD hv .non = true → rows.find? (fun v => !isRowD v (.int (lenD hv))) = none → ∃ (H : High) (R : List (List Int)) (A : List (List (Option Int))), hv = highD H ∧ rows = R.map rowD ∧ RowsOk R ∧ (∀ r ∈ R, r.length = H.length ∧ ∀ x ∈ r, 0 ≤ x) ∧ HNn H ∧ InA A H ∧ (∀ r ∈ R, RowA A r) ∧ prodN A ≤ 1000 ∧ ∀ K, Outs H.length H R K → K.length ≤ 1000 → Q (.ow (.lst (K.map highD))) args)
theorem mS_highs_outside : MonoF S_highs_outside := ⟨fun h h' ⟨d, a, b, c, c2, e1, e2, q⟩ => ⟨d, a, b, c, c2, fun k => h' _ _ (e1 k), fun k v z => h' _ _ (e2 k v z), fun k z => let ⟨H, R, A, p1, p2, p3, p4, p5, p6, p7, p8, q⟩ := q k z; ⟨H, R, A, p1, p2, p3, p4, p5, p6, p7, p8, fun K o l => h _ _ (q K o l)⟩⟩⟩
/-- the checks of the rows -/
theorem lp_checks (K : Ks) (hv : D) (b c d f : Option Val) (len : ∃ ds, hv = .tup ds) : ∀ (rows : List D) (o2 : Option Val), plainL rows = true →
    (rows.find? (fun v => !isRowD v (.int (lenD hv))) = none → ∀ o2, K.nx [some (.fz hv), b, o2, c, d, f]) →
    (∀ v, rows.find? (fun v => !isRowD v (.int (lenD hv))) = some v → ∀ o2, K.ex (IR v) [some (.fz hv), b, o2, c, d, f]) →
    loopW (.n 2) (wExp (wCall S_check_row (wCons (wFrz (wVar 2)) (wCons (wFrz (wBlt gLen (wCons (wVar 0) wNil))) wNil)))) yesK K rows [some (.fz hv), b, o2, c, d, f]
  | [], o2, _, q, _ => ⟨True.intro, q rfl _⟩
  | v :: rows, o2, hp, q, e => by
    obtain ⟨ds, rfl⟩ := len
    have hp := Bool.and_eq_true_iff.mp (show (v.plain && plainL rows) = true from hp)
    refine ⟨True.intro, _, rfl, ?_⟩
    refine (?_ : wExp _ _ _)
    simp_all! only [S_check_row]
    refine ⟨hp.1, .inr ⟨_, rfl⟩, fun z => ?_, fun z => ?_⟩
    · refine lp_checks K (.tup ds) b c d f ⟨ds, rfl⟩ rows _ hp.2 (fun n => q ?_) (fun u hu => e u ?_)
      · rw [List.find?_cons_of_neg (by rw [show isRowD v (.int (lenD (.tup ds))) = true from z]; simp)]; exact n
      · rw [List.find?_cons_of_neg (by rw [show isRowD v (.int (lenD (.tup ds))) = true from z]; simp)]; exact hu
    · refine e v ?_ _
      rw [List.find?_cons_of_pos (by rw [show isRowD v (.int (lenD (.tup ds))) = false from z]; rfl)]
end LV


set_option Elab.async false
set_option linter.all false
set_option maxRecDepth 100000
set_option maxHeartbeats 400000
namespace LV
open PySem PySem.Spec L2
theorem nodup_srt {K : List High} (h : K.Pairwise fun a b => ltH a b = true) : K.Nodup :=
  List.nodup_iff_pairwise_ne.mpr (h.imp fun {a b} z e => by subst e; rw [ltH_irr] at z; cases z)
theorem few_in {A : List (List (Option Int))} {M : List High} (hn : M.Nodup) (hA : ∀ m ∈ M, InA A m) (hp : prodN A ≤ 1000) : M.length ≤ 1000 := by
  have := nodup_len hn fun m hm => mem_prodA (hA m hm)
  rw [len_prodA] at this; omega
def bOut : SW := wSet 3 (wCall S_greatest_among (wCons (wFrz (wLc2 (.n 4) (wIt [] (wVar 3)) (.n 5) (wIt [] (wCall S_parts_outside (wCons (wFrz (wVar 4)) (wCons (wFrz (wVar 2)) wNil)))) (wVar 5) [4, 5] [5])) (wCons (wFrz (wC (.int 1000))) wNil)))
theorem lp_outs (Ks0 : Ks) (hv b : Option Val) (H : High) (w : Nat) (w1 : 1 ≤ w) (w8 : w ≤ 8) (lH : H.length = w) (A : List (List (Option Int))) (hp : prodN A ≤ 1000) : ∀ (L2 R : List (List Int)) (K : List High) (o2 : Option Val), (∀ r ∈ R, r.length = w) → (∀ r ∈ L2, r.length = w ∧ RowA A r) → Outs w H R K → (∀ k ∈ K, InA A k) →
    (∀ K' o2, Outs w H (R ++ L2) K' → K'.length ≤ 1000 → Ks0.nx [hv, b, o2, some (.ow (.lst (K'.map highD))), none, none]) →
    loopW (.n 2) bOut yesK Ks0 (L2.map rowD) [hv, b, o2, some (.ow (.lst (K.map highD))), none, none]
  | [], R, K, o2, hR, hL, o, hK, q => ⟨True.intro, q K o2 (by rw [List.append_nil]; exact o) (few_in (nodup_srt o.srt) hK hp)⟩
  | r :: L2, R, K, o2, hR, hL, o, hK, q => by
    have sz := sizeLine_eq
    obtain ⟨lr, rA⟩ := hL r List.mem_cons_self
    have kl := few_in (nodup_srt o.srt) hK hp
    have lp : ∀ k ∈ K.flatMap fun k => partsH k r, k.length = w ∧ InA A k := fun k hk => by
      obtain ⟨k0, h0, hp⟩ := List.mem_flatMap.mp hk
      exact ⟨(parts_ok ((o.len k0 h0).trans lr.symm) (o.nn k0 h0) hp).len.trans (o.len k0 h0), parts_in (hK k0 h0) rA hp⟩
    have fl : (K.flatMap fun k => partsH k r).length ≤ 100000 := by
      have : ∀ K : List High, (K.flatMap fun k => partsH k r).length ≤ 9 * K.length := fun K => by
        induction K with
        | nil => exact Nat.zero_le _
        | cons k K ih =>
          have := parts_len (h := k) (r := r)
          rw [List.flatMap_cons, List.length_append, List.length_cons]; omega
      have := this K
      omega
    refine ⟨True.intro, _, rfl, ?_⟩
    refine (?_ : wSet 3 (wCall S_greatest_among (wCons (wFrz (wLc2 (.n 4) (wIt [] (wVar 3)) (.n 5) (wIt [] (wCall S_parts_outside (wCons (wFrz (wVar 4)) (wCons (wFrz (wVar 2)) wNil)))) (wVar 5) [4, 5] [5])) (wCons (wFrz (wC (.int 1000))) wNil))) _ _)
    unfold wLc2
    walk_at "lv"
    simp only [wipeE, List.set_cons_zero, List.set_cons_succ]
    refine cw_parts hv b _ r w lr w8 _ K [] o.len (by rw [List.length_nil]; omega) ?_
    rw [List.nil_append]
    refine ⟨_, w, rfl, w1, by omega, fun h hh => (lp h hh).1, fl, fun M hn hm => few_in hn (fun m h => (lp m (hm m h)).2) hp, fun K' g => ?_⟩
    walk_at "lv"
    have o' := o.step lH lr hR g
    refine lp_outs Ks0 hv b H w w1 w8 lH A hp L2 (R ++ [r]) K' _ (fun s hs => ?_) (fun s hs => hL s (List.mem_cons_of_mem _ hs)) o' (fun k hk => (lp k ((g.mem k).mp hk).1).2) fun K2 o2 h hl => q K2 o2 (by rw [List.append_assoc] at h; exact h) hl
    rcases List.mem_append.mp hs with z | z
    · exact hR s z
    · rw [List.mem_singleton.mp z]; exact lr
theorem kp_highs_outside : Keeps S_highs_outside [] 2 6 (w_highs_outside S_check_high S_check_row S_least_of S_parts_outside S_greatest_among) where
  fit := fun args Q E ⟨_, _, a, _⟩ => a ▸ fit2
  run := fun args Q E ⟨hv, rows, a, ph, pr, e1, e2, q⟩ => by
    subst a
    unfold w_highs_outside
    have sz := sizeLine_eq
    refine seq_k fun K1 hn hr1 hb hct he => ?_
    simp_all! only [S_check_high]
    refine ⟨ph, .inl rfl, fun k => ?_, fun k => by rw [he]; walk_at "lv"; exact e1 k⟩
    refine hn _ (seq_k fun K2 hn2 hr2 hb2 hct2 he2 => ?_)
    have tp : ∃ ds, hv = .tup ds := by
      cases hv with
      | tup ds => exact ⟨ds, rfl⟩
      | _ => exact nomatch k
    walk_at "lv"
    refine lp_checks K2 hv _ none none none tp rows none pr (fun z o2 => ?_) fun v hv' o2 => ?_
    · obtain ⟨H, R, A, rfl, rfl, ro, hR, hn0, iA, rA, hp, q⟩ := q k z
      have hw := isHighD_high k
      obtain ⟨H', eH, _, w1, w8, _⟩ := hw
      have eH := highD_inj eH
      subst eH
      refine hn2 _ (seq_k fun K3 hn3 hr3 hb3 hct3 he3 => ?_)
      walk_at "lv"
      refine ⟨by omega, hn3 _ (seq_k fun K4 hn4 hr4 hb4 hct4 he4 => ?_)⟩
      simp_all! only [S_least_of]
      have fb : firstBad .non (R.map rowD) = none := by
        have := firstBad_rows w1 w8 (rows := R) (v := .non) (fun r hr => hR r hr) (.inl rfl) []
        rw [List.append_nil] at this
        rw [this]; rfl
      refine ⟨pr, .inl ⟨R, rfl, fb, ro, fun L hL => ?_⟩⟩
      have hLR : ∀ r ∈ L, r ∈ R := fun r h => ((hL.mem r).mp h).1
      rw [show [highD H] = [H].map highD from rfl]
      refine lp_outs K4 _ _ H H.length w1 w8 rfl A hp L [] [H] _ (fun _ z => (nomatch z)) (fun r hr => ⟨(hR r (hLR r hr)).1, rA r (hLR r hr)⟩) (Outs.nil rfl hn0) (fun k hk => by rw [List.mem_singleton.mp hk]; exact iA) fun K' o2 o kl => hn4 _ ?_
      rw [List.nil_append] at o
      walk_at "lv"
      exact q K' (Outs.of_least hR hL o) kl
    · rw [he2]
      walk_at "lv"
      exact e2 k v hv'
end LV


set_option Elab.async false
set_option linter.all false
set_option maxRecDepth 100000
set_option maxHeartbeats 400000
set_option exponentiation.threshold 10000
namespace LV
open PySem PySem.Spec L2
abbrev levR (r : List Int) : D := .lst (r.map D.int)
abbrev levD (lv : List (List Int)) : D := .lst (lv.map levR)
def manyL (w : Nat) : Nat := match w with | 1 => 5 | 2 => 4 | 3 => 3 | 4 => 2 | _ => 1
structure LevOk (w : Nat) (lv : List (List Int)) : Prop where
  len : lv.length = w
  many : ∀ r ∈ lv, r.length = manyL w
  bd : ∀ r ∈ lv, ∀ x ∈ r, 1 ≤ x ∧ x < 10 ^ 30
def bLev1 : SW := (wSeq (wSet 6 (wOp2 gAdd (wOp2 gAdd (wVar 6) (wC (.int 1))) (wCall S__law_take (wCons (wVar 0) (wCons (wC (.int 3)) wNil)))))
  (wApp 5 (wVar 6)))
theorem lp_lev1 (K : Ks) (b c d e : Option Val) : ∀ (j i : Nat) (row : List Int) (l : Int) (o : O) (m : Int) (o7 : Option Val), i + j ≤ 5 → row.length = i → (∀ x ∈ row, 1 ≤ x ∧ x ≤ 15) → 0 ≤ l → l ≤ 3 * i → BagOk o m → m + j < 900000000 →
    (∀ (row' : List Int) (l' : Int) (o' : O) (o7 : Option Val), row'.length = i + j → (∀ x ∈ row', 1 ≤ x ∧ x ≤ 15) → BagOk o' (m + j) → K.nx [some (.ow o'), b, c, d, e, some (.ow (.lst (row'.map D.int))), some (.fz (.int l')), o7]) →
    loopW (.n 7) bLev1 yesK K (rngD (i : Int) j) [some (.ow o), b, c, d, e, some (.ow (.lst (row.map D.int))), some (.fz (.int l)), o7]
  | 0, i, row, l, o, m, o7, hi, hr, hx, l0, l1, bg, hm, q => ⟨True.intro, q row l o o7 hr hx (bg.mono (by omega))⟩
  | j + 1, i, row, l, o, m, o7, hi, hr, hx, l0, l1, bg, hm, q => by
    have sz := sizeLine_eq
    refine ⟨True.intro, _, rfl, ?_⟩
    refine (?_ : wSeq _ _ _ _)
    refine seq_k fun K1 hn hr1 hb hct he => ?_
    simp only [List.set_cons_zero, List.set_cons_succ]
    simp_all! only [S__law_take]
    refine ⟨m, bg, by decide, by decide, by omega, fun t o' t0 t1 bg' => hn _ ?_⟩
    walk_at "lv"
    refine ⟨by rw [List.length_map]; omega, ?_⟩
    rw [show row.map D.int ++ [D.int (l + 1 + t)] = (row ++ [l + 1 + t]).map D.int by rw [List.map_append]; rfl, show (i : Int) + 1 = ((i + 1 : Nat) : Int) by omega]
    refine lp_lev1 K b c d e j (i + 1) (row ++ [l + 1 + t]) _ o' (m + 1) _ (by omega) (by rw [List.length_append, hr]; rfl) (fun x hx' => ?_) (by omega) (by omega) bg' (by omega) fun row' l' o2 o7 h1 h2 h3 => q row' l' o2 o7 (by omega) h2 (h3.mono (by omega))
    rcases List.mem_append.mp hx' with z | z
    · exact hx x z
    · rw [List.mem_singleton.mp z]; omega
def bLev : SW := (wSeq (wSet 4 (wOp2 gIx (wLst (wCons (wC (.int 5)) (wCons (wC (.int 4)) (wCons (wC (.int 3)) (wCons (wC (.int 2)) (wCons (wC (.int 1)) (wCons (wC (.int 1)) (wCons (wC (.int 1)) (wCons (wC (.int 1)) wNil))))))))) (wOp2 gSub (wVar 1) (wC (.int 1)))))
  (wSeq (wSet 5 (wLst wNil))
  (wSeq (wSet 6 (wC (.int 0)))
  (wSeq (wFor (.n 7) (wRng1 (wCons (wVar 4) wNil)) bLev1)
  (wSeq (wIf (wB (wOp2 gEq (wCall S__law_take (wCons (wVar 0) (wCons (wC (.int 8)) wNil))) (wC (.int 7))))
  (wSetIx 5 (wOp2 gAdd (wOp2 gAdd (wOp2 gIx (wVar 5) (wOp2 gSub (wVar 4) (wC (.int 1)))) (wOp2 gPow (wC (.int 10)) (wC (.int 28)))) (wCall S__law_take (wCons (wVar 0) (wCons (wFrz (wOp2 gMulT (wC (.int 9)) (wOp2 gPow (wC (.int 10)) (wC (.int 29))))) wNil)))) (wOp2 gSub (wVar 4) (wC (.int 1))))
  wSkip)
  (wApp 2 (wVar 5)))))))
theorem many_ok {w : Nat} (w1 : 1 ≤ w) (w8 : w ≤ 8) : 1 ≤ manyL w ∧ manyL w ≤ 5 ∧ L2.atI [D.int 5, D.int 4, D.int 3, D.int 2, D.int 1, D.int 1, D.int 1, D.int 1] ((w : Int) - 1) = some (.int (manyL w)) := by
  rcases (by omega : w = 1 ∨ w = 2 ∨ w = 3 ∨ w = 4 ∨ w = 5 ∨ w = 6 ∨ w = 7 ∨ w = 8) with rfl | rfl | rfl | rfl | rfl | rfl | rfl | rfl <;> exact ⟨by decide, by decide, rfl⟩
theorem lp_lev (K : Ks) (w : Nat) (w1 : 1 ≤ w) (w8 : w ≤ 8) : ∀ (j i : Nat) (lv : List (List Int)) (o : O) (m : Int) (o3 o4 o5 o6 o7 : Option Val), i + j = w → lv.length = i → (∀ r ∈ lv, r.length = manyL w ∧ ∀ x ∈ r, 1 ≤ x ∧ x < 10 ^ 30) → BagOk o m → m + 7 * j < 800000000 →
    (∀ (lv : List (List Int)) (o' : O) (o3 o4 o5 o6 o7 : Option Val), LevOk w lv → BagOk o' (m + 7 * j) → K.nx [some (.ow o'), some (.fz (.int w)), some (.ow (.lst (lv.map levR))), o3, o4, o5, o6, o7]) →
    loopW (.n 3) bLev yesK K (rngD (i : Int) j) [some (.ow o), some (.fz (.int w)), some (.ow (.lst (lv.map levR))), o3, o4, o5, o6, o7]
  | 0, i, lv, o, m, o3, o4, o5, o6, o7, e, hl, hr, bg, hm, q => ⟨True.intro, q lv o _ _ _ _ _ ⟨by omega, fun r h => (hr r h).1, fun r h => (hr r h).2⟩ (bg.mono (by omega))⟩
  | j + 1, i, lv, o, m, o3, o4, o5, o6, o7, e, hl, hr, bg, hm, q => by
    have sz := sizeLine_eq
    obtain ⟨m1, m5, hat⟩ := many_ok w1 w8
    refine ⟨True.intro, _, rfl, ?_⟩
    refine (?_ : wSeq _ _ _ _)
    refine seq_k fun K1 hn hr1 hb hct he => ?_
    simp only [List.set_cons_zero, List.set_cons_succ]
    simp_all! only [hat]
    refine ⟨by omega, hn _ (seq_k fun K2 hn2 hr2 hb2 hct2 he2 => ?_)⟩
    walk_at "lv"
    refine ⟨Nat.zero_le _, hn2 _ (seq_k fun K3 hn3 hr3 hb3 hct3 he3 => ?_)⟩
    walk_at "lv"
    refine hn3 _ (seq_k fun K4 hn4 hr4 hb4 hct4 he4 => ?_)
    walk_at "lv"
    refine ⟨by unfold okR; omega, ?_⟩
    rw [Int.toNat_natCast]
    refine lp_lev1 K4 _ _ _ _ (manyL w) 0 [] 0 o m _ (by omega) rfl (fun _ z => (nomatch z)) (Int.le_refl _) (by omega) bg (by omega) fun row l o1 o7 r1 r2 bg1 => hn4 _ (seq_k fun K5 hn5 hr5 hb5 hct5 he5 => ?_)
    rw [Nat.zero_add] at r1
    have fin : ∀ (row : List Int) (o2 : O), row.length = manyL w → (∀ x ∈ row, 1 ≤ x ∧ x < 10 ^ 30) → BagOk o2 (m + 7) → K5.nx [some (.ow o2), some (.fz (.int w)), some (.ow (.lst (lv.map levR))), some (.fz (.int i)), some (.fz (.int (manyL w))), some (.ow (.lst (row.map D.int))), some (.fz (.int l)), o7] := fun row o2 r1 r2 bg2 => by
      refine hn5 _ ?_
      walk_at "lv"
      refine ⟨by decide, by rw [List.length_map]; omega, ?_⟩
      rw [show lv.map levR ++ [D.lst (row.map D.int)] = (lv ++ [row]).map levR by rw [List.map_append]; rfl, show (i : Int) + 1 = ((i + 1 : Nat) : Int) by omega]
      refine lp_lev K w w1 w8 j (i + 1) (lv ++ [row]) o2 (m + 7) _ _ _ _ _ (by omega) (by rw [List.length_append, hl]; rfl) (fun r hr' => ?_) bg2 (by omega) fun lv o' o3 o4 o5 o6 o7 h1 h2 => q lv o' o3 o4 o5 o6 o7 h1 (h2.mono (by omega))
      rcases List.mem_append.mp hr' with z | z
      · exact hr r z
      · rw [List.mem_singleton.mp z]; exact ⟨r1, r2⟩
    simp_all! only [S__law_take]
    refine ⟨_, bg1, by decide, by decide, by omega, fun t o2 t0 t1 bg2 => iteB (fun _ => ?_) fun _ => ?_⟩
    · obtain ⟨x, hx⟩ : ∃ x, row[manyL w - 1]? = some x := ⟨_, List.getElem?_eq_getElem (by omega)⟩
      have hat2 : L2.atI (row.map D.int) ((manyL w : Int) - 1) = some (.int x) := by
        rw [show (manyL w : Int) - 1 = ((manyL w - 1 : Nat) : Int) by omega]
        exact at_nat (by rw [List.getElem?_map, hx]; rfl)
      have xb := r2 x (List.mem_of_getElem? hx)
      have hix : ixN (row.map D.int).length ((manyL w : Int) - 1) = some (manyL w - 1) := by
        rw [show (manyL w : Int) - 1 = ((manyL w - 1 : Nat) : Int) by omega]
        unfold ixN
        rw [if_pos (by omega), if_pos (by rw [List.length_map]; omega)]; rfl
      have p28 : CPow 10 28 := ⟨by decide, by decide, by decide⟩
      have p29 : CPow 10 29 := ⟨by decide, by decide, by decide⟩
      simp_all! only [hat2, hix]
      refine ⟨p28, p29, by unfold CMulX; decide, _, bg2, by decide, by decide, by omega, fun d o3 d0 d1 bg3 => ?_⟩
      rw [← List.map_set]
      refine fin _ o3 (by rw [List.length_set]; exact r1) (fun y hy => ?_) (bg3.mono (by omega))
      have e28 : (10 : Int) ^ (28 : Int).toNat = 10000000000000000000000000000 := by decide
      have e29 : (10 : Int) ^ (29 : Int).toNat = 100000000000000000000000000000 := by decide
      have e30 : (10 : Int) ^ 30 = 1000000000000000000000000000000 := by decide
      rw [e29] at d1
      rw [e30]
      rcases List.mem_or_eq_of_mem_set hy with z | z
      · have := r2 y z; omega
      · rw [z, e28]; omega
    · exact fin row o2 r1 (fun x hx => by have := r2 x hx; have e : (10 : Int) ^ 30 = 1000000000000000000000000000000 := by decide
                                          rw [e]; omega) (bg2.mono (by omega))
def S__law_levels : FSpec := fun args Q _ => ∃ (o : O) (m : Int) (w : Nat), args = [.ow o, .fz (.int w)] ∧ BagOk o m ∧ m < 700000000 ∧ 1 ≤ w ∧ w ≤ 8 ∧ ∀ (lv : List (List Int)) (o' : O), LevOk w lv → BagOk o' (m + 60) → Q (.ow (.lst (lv.map levR))) [.ow o', .fz (.int w)]
theorem mS__law_levels : MonoF S__law_levels := ⟨fun h _ ⟨o, m, w, a, b, c, d, e, q⟩ => ⟨o, m, w, a, b, c, d, e, fun x y h1 h2 => h _ _ (q x y h1 h2)⟩⟩
theorem kp__law_levels : Keeps S__law_levels [0] 2 8 (w__law_levels S__law_take) where
  fit := fun args Q E ⟨o, m, w, e, _⟩ => e ▸ fitO2
  run := fun args Q E ⟨o, m, w, e, bg, hm, w1, w8, q⟩ => by
    subst e
    unfold w__law_levels
    refine seq_k fun K1 hn hr1 hb hct he => ?_
    walk_at "lv"
    refine ⟨Nat.zero_le _, hn _ (seq_k fun K2 hn2 hr2 hb2 hct2 he2 => ?_)⟩
    refine (?_ : wFor (.n 3) (wRng1 (wCons (wVar 1) wNil)) bLev _ _)
    walk_at "lv"
    refine ⟨by unfold okR; omega, ?_⟩
    rw [Int.toNat_natCast]
    refine lp_lev K2 w w1 w8 w 0 [] o m none none none none none (by omega) rfl (fun _ z => (nomatch z)) bg (by omega) fun lv o' o3 o4 o5 o6 o7 h1 h2 => hn2 _ ?_
    walk_at "lv"
    exact q lv o' h1 (h2.mono (by omega))
end LV


set_option Elab.async false
set_option linter.all false
set_option maxRecDepth 100000
set_option maxHeartbeats 400000
set_option exponentiation.threshold 10000
namespace LV
open PySem PySem.Spec L2
def bHigh : SW := (wSeq (wSet 4 (wCall S__law_take (wCons (wVar 0) (wCons (wC (.int 6)) wNil))))
  (wSeq (wSet 5 (wOp2 gIx (wVar 3) (wCall S__law_take (wCons (wVar 0) (wCons (wFrz (wBlt gLen (wCons (wVar 3) wNil))) wNil)))))
  (wApp 2 (wOp2 gIx (wLst (wCons (wC .non) (wCons (wC .non) (wCons (wC .non) (wCons (wVar 5) (wCons (wOp2 gSub (wVar 5) (wC (.int 1))) (wCons (wC (.int 0)) wNil))))))) (wVar 4)))))
theorem at_row {r : List Int} {t : Int} (h0 : 0 ≤ t) (h1 : t < r.length) : ∃ x, L2.atI (r.map D.int) t = some (.int x) ∧ x ∈ r := by
  obtain ⟨n, rfl⟩ := Int.eq_ofNat_of_zero_le h0
  have hn : n < r.length := by omega
  exact ⟨r[n], at_nat (by rw [List.getElem?_map, List.getElem?_eq_getElem hn]; rfl), List.getElem_mem _⟩
theorem lp_high (K : Ks) (b : Option Val) : ∀ (lv : List (List Int)) (dn : High) (o : O) (m : Int) (o3 o4 o5 : Option Val), (∀ r ∈ lv, 1 ≤ r.length ∧ r.length ≤ 5 ∧ ∀ x ∈ r, 1 ≤ x ∧ x < 10 ^ 30) → (∀ x ∈ dn, EntOk (10 ^ 30) x) → dn.length + lv.length ≤ 8 → BagOk o m → m + 2 * lv.length < 800000000 →
    (∀ (h : High) (o' : O) (o3 o4 o5 : Option Val), h.length = dn.length + lv.length → (∀ x ∈ h, EntOk (10 ^ 30) x) → BagOk o' (m + 2 * lv.length) → K.nx [some (.ow o'), b, some (.ow (.lst (h.map entD))), o3, o4, o5]) →
    loopW (.n 3) bHigh yesK K (lv.map levR) [some (.ow o), b, some (.ow (.lst (dn.map entD))), o3, o4, o5]
  | [], dn, o, m, o3, o4, o5, hr, hd, hl, bg, hm, q => ⟨True.intro, q dn o _ _ _ rfl hd (bg.mono (by omega))⟩
  | r :: lv, dn, o, m, o3, o4, o5, hr, hd, hl, bg, hm, q => by
    have sz := sizeLine_eq
    rw [List.length_cons] at hl hm
    obtain ⟨r1, r5, rb⟩ := hr r List.mem_cons_self
    refine ⟨True.intro, _, rfl, ?_⟩
    refine (?_ : wSeq _ _ _ _)
    refine seq_k fun K1 hn hr1 hb hct he => ?_
    simp only [List.set_cons_zero, List.set_cons_succ]
    simp_all! only [S__law_take]
    refine ⟨m, bg, by decide, by decide, by omega, fun t o1 t0 t1 bg1 => hn _ (seq_k fun K2 hn2 hr2 hb2 hct2 he2 => ?_)⟩
    simp_all! only [S__law_take]
    refine ⟨_, bg1, by rw [List.length_map]; omega, by rw [List.length_map]; omega, by omega, fun u o2 u0 u1 bg2 => ?_⟩
    rw [List.length_map] at u1
    obtain ⟨x, hx, xm⟩ := at_row u0 u1
    have xb := rb x xm
    refine ⟨_, hx, hn2 _ ?_⟩
    have fin : ∀ y : Option Int, EntOk (10 ^ 30) y → loopW (.n 3) bHigh yesK K (lv.map levR) [some (.ow o2), b, some (.ow (.lst (dn.map entD ++ [entD y]))), some (.fz (levR r)), some (.fz (.int t)), some (.fz (.int x))] := fun y hy => by
      rw [show dn.map entD ++ [entD y] = (dn ++ [y]).map entD by rw [List.map_append]; rfl]
      refine lp_high K b lv (dn ++ [y]) o2 (m + 2) _ _ _ (fun s hs => hr s (List.mem_cons_of_mem _ hs)) (fun z hz => ?_) (by rw [List.length_append, List.length_singleton]; omega) (bg2.mono (by omega)) (by omega) fun h o' o3 o4 o5 h1 h2 h3 => q h o' o3 o4 o5 (by rw [h1, List.length_append, List.length_singleton, List.length_cons]; omega) h2 (h3.mono (by rw [List.length_cons]; omega))
      rcases List.mem_append.mp hz with z1 | z1
      · exact hd z z1
      · rw [List.mem_singleton.mp z1]; exact hy
    have hat : ∃ y : Option Int, EntOk (10 ^ 30) y ∧ L2.atI [D.non, D.non, D.non, D.int x, D.int (x - 1), D.int 0] t = some (entD y) := by
      rcases (by omega : t = 0 ∨ t = 1 ∨ t = 2 ∨ t = 3 ∨ t = 4 ∨ t = 5) with rfl | rfl | rfl | rfl | rfl | rfl
      · exact ⟨none, .none, rfl⟩
      · exact ⟨none, .none, rfl⟩
      · exact ⟨none, .none, rfl⟩
      · exact ⟨some x, .some (by omega) xb.2, rfl⟩
      · exact ⟨some (x - 1), .some (by omega) (by omega), rfl⟩
      · exact ⟨some 0, .some (by decide) (by decide), rfl⟩
    obtain ⟨y, hy, hat⟩ := hat
    simp_all! only [hat]
    have f := fin y hy
    cases y with
    | none => exact ⟨by omega, by rw [List.length_map]; omega, f⟩
    | some y => exact ⟨by omega, by rw [List.length_map]; omega, f⟩
def S__law_high : FSpec := fun args Q _ => ∃ (o : O) (m : Int) (lv : List (List Int)) (w : Nat), args = [.ow o, .fz (levD lv)] ∧ BagOk o m ∧ m < 700000000 ∧ 1 ≤ w ∧ w ≤ 8 ∧ LevOk w lv ∧ ∀ (h : High) (o' : O), HighOk w (10 ^ 30) h → BagOk o' (m + 16) → Q (.fz (highD h)) [.ow o', .fz (levD lv)]
theorem mS__law_high : MonoF S__law_high := ⟨fun h _ ⟨o, m, lv, w, a, b, c, d, e, f, q⟩ => ⟨o, m, lv, w, a, b, c, d, e, f, fun x y h1 h2 => h _ _ (q x y h1 h2)⟩⟩
theorem LevOk.each {w : Nat} {lv : List (List Int)} (w1 : 1 ≤ w) (w8 : w ≤ 8) (h : LevOk w lv) : ∀ r ∈ lv, 1 ≤ r.length ∧ r.length ≤ 5 ∧ ∀ x ∈ r, 1 ≤ x ∧ x < 10 ^ 30 := fun r hr => by
  obtain ⟨m1, m5, _⟩ := many_ok w1 w8
  exact ⟨by rw [h.many r hr]; exact m1, by rw [h.many r hr]; exact m5, h.bd r hr⟩
theorem kp__law_high : Keeps S__law_high [0] 2 6 (w__law_high S__law_take) where
  fit := fun args Q E ⟨o, m, w, _, e, _⟩ => e ▸ fitO2
  run := fun args Q E ⟨o, m, lv, w, e, bg, hm, w1, w8, ok, q⟩ => by
    subst e
    unfold w__law_high
    have ll := ok.len
    refine seq_k fun K1 hn hr1 hb hct he => ?_
    walk_at "lv"
    refine ⟨Nat.zero_le _, hn _ (seq_k fun K2 hn2 hr2 hb2 hct2 he2 => ?_)⟩
    refine (?_ : wFor (.n 3) (wIt [0] (wVar 1)) bHigh _ _)
    walk_at "lv"
    refine lp_high K2 _ lv [] o m none none none (ok.each w1 w8) (fun _ z => (nomatch z)) (by rw [List.length_nil]; omega) bg (by omega) fun h o' o3 o4 o5 h1 h2 h3 => hn2 _ ?_
    rw [List.length_nil] at h1
    walk_at "lv"
    exact q h o' ⟨by omega, h2⟩ (h3.mono (by omega))
end LV


set_option Elab.async false
set_option linter.all false
set_option maxRecDepth 100000
set_option maxHeartbeats 400000
set_option exponentiation.threshold 10000
namespace LV
open PySem PySem.Spec L2
def RowL : List (List Int) → List Int → Prop
  | [], [] => True
  | l :: lv, x :: r => (x = 0 ∨ x ∈ l) ∧ RowL lv r
  | _, _ => False
theorem RowL.len : ∀ {lv : List (List Int)} {r : List Int}, RowL lv r → r.length = lv.length
  | [], [], _ => rfl
  | [], _ :: _, h => h.elim
  | _ :: _, [], h => h.elim
  | _ :: _, _ :: _, h => congrArg (· + 1) h.2.len
theorem RowL.bd : ∀ {lv : List (List Int)} {r : List Int}, RowL lv r → (∀ l ∈ lv, ∀ x ∈ l, 1 ≤ x ∧ x < 10 ^ 30) → ∀ x ∈ r, 0 ≤ x ∧ x < 10 ^ 30
  | [], [], _, _, _, z => nomatch z
  | [], _ :: _, h, _, _, _ => h.elim
  | _ :: _, [], h, _, _, _ => h.elim
  | l :: lv, y :: r, h, hb, x, hx => by
    rcases List.mem_cons.mp hx with e | e
    · subst e
      rcases h.1 with e | e
      · subst e; exact ⟨Int.le_refl _, by decide⟩
      · have := hb l List.mem_cons_self x e; exact ⟨by omega, this.2⟩
    · exact h.2.bd (fun l hl => hb l (List.mem_cons_of_mem _ hl)) x e
theorem RowL.set : ∀ {lv : List (List Int)} {r : List Int} {i : Nat} {x : Int}, RowL lv r → (∀ l : List Int, lv[i]? = some l → x = 0 ∨ x ∈ l) → RowL lv (r.set i x)
  | [], [], _, _, _, _ => True.intro
  | [], _ :: _, _, _, h, _ => h.elim
  | _ :: _, [], _, _, h, _ => h.elim
  | l :: lv, y :: r, 0, x, h, hx => ⟨hx l rfl, h.2⟩
  | l :: lv, y :: r, i + 1, x, h, hx => ⟨h.1, h.2.set fun k hk => hx k hk⟩
theorem RowL.snoc : ∀ {lv : List (List Int)} {r : List Int} {l : List Int} {x : Int}, RowL lv r → (x = 0 ∨ x ∈ l) → RowL (lv ++ [l]) (r ++ [x])
  | [], [], _, _, _, h => ⟨h, True.intro⟩
  | [], _ :: _, _, _, h, _ => h.elim
  | _ :: _, [], _, _, h, _ => h.elim
  | l :: lv, y :: r, k, x, h, hx => ⟨h.1, h.2.snoc hx⟩
theorem at_zero_row {r : List Int} {t : Int} (h0 : 0 ≤ t) (h1 : t < 1 + r.length) : ∃ x, L2.atI (D.int 0 :: r.map D.int) t = some (.int x) ∧ (x = 0 ∨ x ∈ r) := by
  obtain ⟨x, hx, hm⟩ := at_row (r := 0 :: r) h0 (by rw [List.length_cons]; omega)
  exact ⟨x, hx, List.mem_cons.mp hm⟩
abbrev wZero (w : EW) : EW := (wOp2 gIx (wOp2 gAdd (wLst (wCons (wC (.int 0)) wNil)) w) (wCall S__law_take (wCons (wVar 0) (wCons (wFrz (wOp2 gAdd (wC (.int 1)) (wBlt gLen (wCons w wNil)))) wNil))))
theorem cw_rows (b c d e f : Option Val) (Q : List D → En → Prop) : ∀ (lv2 lv1 : List (List Int)) (acc : List Int) (o : O) (m : Int), (∀ r ∈ lv2, 1 ≤ r.length ∧ r.length ≤ 5 ∧ ∀ x ∈ r, 1 ≤ x ∧ x < 10 ^ 30) → RowL lv1 acc → acc.length + lv2.length ≤ 8 → BagOk o m → m + lv2.length < 800000000 →
    (∀ (xs : List Int) (o' : O), RowL (lv1 ++ lv2) xs → BagOk o' (m + lv2.length) → Q (xs.map D.int) [some (.ow o'), b, c, d, e, f, none]) →
    compW (.n 6) uYes (wZero (wVar 6)) [6] yesK Q (lv2.map levR) (acc.map D.int) [some (.ow o), b, c, d, e, f, none]
  | [], lv1, acc, o, m, hr, hl, ha, bg, hm, q => ⟨True.intro, q acc o (by rw [List.append_nil]; exact hl) (bg.mono (by omega))⟩
  | r :: lv2, lv1, acc, o, m, hr, hl, ha, bg, hm, q => by
    have sz := sizeLine_eq
    rw [List.length_cons] at ha hm
    obtain ⟨r1, r5, rb⟩ := hr r List.mem_cons_self
    refine ⟨True.intro, _, rfl, ?_⟩
    refine (show ∀ {G : Bool → En → Prop} {e : En} {E : XW}, G true e → uYes e G E from fun h => h) ?_
    rw [if_pos rfl]
    simp_all! only [S__law_take]
    refine ⟨by omega, by rw [List.length_map]; omega, m, bg, by omega, by rw [List.length_map]; omega, by omega, fun u o2 u0 u1 bg2 => ?_⟩
    rw [List.length_map] at u1
    obtain ⟨x, hx, xm⟩ := at_zero_row u0 u1
    refine ⟨_, hx, ?_⟩
    refine ⟨by rw [List.length_map]; omega, ?_⟩
    simp only [wipeE, List.set_cons_zero, List.set_cons_succ]
    rw [show acc.map D.int ++ [D.int x] = (acc ++ [x]).map D.int by rw [List.map_append]; rfl]
    exact cw_rows b c d e f Q lv2 (lv1 ++ [r]) (acc ++ [x]) o2 (m + 1) (fun s hs => hr s (List.mem_cons_of_mem _ hs)) (hl.snoc xm) (by rw [List.length_append, List.length_singleton]; omega) bg2 (by omega) fun xs o' h1 h2 => q xs o' (by rw [List.append_assoc] at h1; exact h1) (h2.mono (by rw [List.length_cons]; omega))
theorem zero_ix {o : O} {m : Int} {lv : List (List Int)} {c d e f : Option Val} {p : Int} {r : List Int} {Q : Rv → En → Prop} {E : XW} (hat : L2.atI (lv.map levR) p = some (levR r)) (r5 : r.length ≤ 5) (r1 : 1 ≤ r.length) (bg : BagOk o m) (hm : m < 900000000)
    (q : ∀ (x : Int) (o' : O), (x = 0 ∨ x ∈ r) → BagOk o' (m + 1) → Q (.fz (.int x)) [some (.ow o'), some (.fz (levD lv)), c, d, e, some (.fz (.int p)), f]) :
    wZero (wOp2 gIx (wVar 1) (wVar 5)) [some (.ow o), some (.fz (levD lv)), c, d, e, some (.fz (.int p)), f] Q E := by
  have sz := sizeLine_eq
  simp_all! only [hat, S__law_take]
  refine ⟨by omega, by rw [List.length_map]; omega, m, bg, by omega, by rw [List.length_map]; omega, by omega, fun v o6 v0 v1 bg4 => ?_⟩
  rw [List.length_map] at v1
  obtain ⟨x, hx, xm⟩ := at_zero_row v0 v1
  exact ⟨_, hx, q x o6 xm bg4⟩
def bRows : SW := (wSeq (wIf (wtOr (wB (wOp2 gEq (wVar 3) (wC (.int 0)))) (wB (wOp2 gEq (wCall S__law_take (wCons (wVar 0) (wCons (wC (.int 2)) wNil))) (wC (.int 0)))))
  (wSet 4 (wLc (.n 6) (wIt [0] (wVar 1)) uYes (wZero (wVar 6)) [6]))
  (wSeq (wSet 4 (wBlt gList (wCons (wOp2 gIx (wVar 2) (wCall S__law_take (wCons (wVar 0) (wCons (wFrz (wVar 3)) wNil)))) wNil)))
  (wSeq (wSet 5 (wCall S__law_take (wCons (wVar 0) (wCons (wFrz (wBlt gLen (wCons (wVar 1) wNil))) wNil))))
  (wSetIx 4 (wZero (wOp2 gIx (wVar 1) (wVar 5))) (wVar 5)))))
  (wApp 2 (wBlt gTuple (wCons (wVar 4) wNil))))
theorem lp_rows (K : Ks) (w : Nat) (w1 : 1 ≤ w) (w8 : w ≤ 8) (lv : List (List Int)) (ok : LevOk w lv) : ∀ (j i : Nat) (rows : List (List Int)) (o : O) (m : Int) (o3 o4 o5 : Option Val), i + j ≤ 6 → rows.length = i → (∀ r ∈ rows, RowL lv r) → BagOk o m → m + 20 * j < 800000000 →
    (∀ (rows' : List (List Int)) (o' : O) (o3 o4 o5 : Option Val), rows'.length ≤ 6 → (∀ r ∈ rows', RowL lv r) → BagOk o' (m + 20 * j) → K.nx [some (.ow o'), some (.fz (levD lv)), some (.ow (.lst (rows'.map rowD))), o3, o4, o5, none]) →
    loopW (.n 3) bRows yesK K (rngD (i : Int) j) [some (.ow o), some (.fz (levD lv)), some (.ow (.lst (rows.map rowD))), o3, o4, o5, none]
  | 0, i, rows, o, m, o3, o4, o5, e, hl, hr, bg, hm, q => ⟨True.intro, q rows o _ _ _ (by omega) hr (bg.mono (by omega))⟩
  | j + 1, i, rows, o, m, o3, o4, o5, e, hl, hr, bg, hm, q => by
    have sz := sizeLine_eq
    have ll := ok.len
    have each := ok.each w1 w8
    refine ⟨True.intro, _, rfl, ?_⟩
    refine (?_ : wSeq _ _ _ _)
    refine seq_k fun K1 hn hr1 hb hct he => ?_
    simp only [List.set_cons_zero, List.set_cons_succ]
    have fin : ∀ (r : List Int) (o' : O) (o5 : Option Val), RowL lv r → BagOk o' (m + 20) → K1.nx [some (.ow o'), some (.fz (levD lv)), some (.ow (.lst (rows.map rowD))), some (.fz (.int i)), some (.ow (.lst (r.map D.int))), o5, none] := fun r o' o5 h1 h2 => by
      refine hn _ ?_
      walk_at "lv"
      refine ⟨by rw [List.length_map]; omega, ?_⟩
      rw [show rows.map rowD ++ [D.tup (r.map D.int)] = (rows ++ [r]).map rowD by rw [List.map_append]; rfl, show (i : Int) + 1 = ((i + 1 : Nat) : Int) by omega]
      refine lp_rows K w w1 w8 lv ok j (i + 1) (rows ++ [r]) o' (m + 20) _ _ _ (by omega) (by rw [List.length_append, hl]; rfl) (fun s hs => ?_) h2 (by omega) fun rows' o' o3 o4 o5 a b c => q rows' o' o3 o4 o5 a b (c.mono (by omega))
      rcases List.mem_append.mp hs with z | z
      · exact hr s z
      · rw [List.mem_singleton.mp z]; exact h1
    have anew : ∀ (o' : O) (m' : Int), BagOk o' m' → m' ≤ m + 1 → wSet 4 (wLc (.n 6) (wIt [0] (wVar 1)) uYes (wZero (wVar 6)) [6]) K1 [some (.ow o'), some (.fz (levD lv)), some (.ow (.lst (rows.map rowD))), some (.fz (.int i)), o4, o5, none] := fun o' m' b1 b2 => by
      unfold wLc
      simp only [wSet, wIt, wVar, List.getElem?_cons_zero, List.getElem?_cons_succ, itR, itemsD, Option.some.injEq, exists_eq_left', wipeE, List.set_cons_zero, List.set_cons_succ]
      refine cw_rows _ _ _ _ _ _ lv [] [] o' m' each True.intro (by rw [List.length_nil]; omega) b1 (by omega) fun xs o2 h1 h2 => ?_
      rw [List.nil_append] at h1
      walk_at "lv"
      exact fin xs o2 _ h1 (h2.mono (by omega))
    refine if_or fun G g0 g1 => ?_
    walk_at "lv"
    by_cases h0 : i = 0
    · subst h0
      exact g1 _ (anew o m bg (by omega))
    · rw [show ((i : Int) == 0) = false by simp; omega]
      refine g0 _ ?_
      refine if_k fun G g0 g1 => ?_
      simp_all! only [S__law_take]
      refine ⟨m, bg, by decide, by decide, by omega, fun t o1 t0 t1 bg1 => ?_⟩
      by_cases ht : t = 0
      · rw [show (t == (0 : Int)) = true by simp [ht]]
        exact g1 _ (anew o1 (m + 1) bg1 (Int.le_refl _))
      rw [show (t == (0 : Int)) = false by simp [ht]]
      refine g0 _ ?_
      refine seq_k fun K2 hn2 hr2 hb2 hct2 he2 => ?_
      simp_all! only [S__law_take]
      refine ⟨_, bg1, by omega, by omega, by omega, fun u o2 u0 u1 bg2 => ?_⟩
      obtain ⟨n, rfl⟩ := Int.eq_ofNat_of_zero_le u0
      have hn' : n < rows.length := by omega
      refine ⟨rowD rows[n], at_nat (by rw [List.getElem?_map, List.getElem?_eq_getElem hn']; rfl), ?_⟩
      have rn := hr rows[n] (List.getElem_mem _)
      generalize rows[n] = r at rn
      walk_at "lv"
      refine hn2 _ (seq_k fun K3 hn3 hr3 hb3 hct3 he3 => ?_)
      simp_all! only [S__law_take]
      refine ⟨_, bg2, by rw [List.length_map]; omega, by rw [List.length_map]; omega, by omega, fun p o3 p0 p1 bg3 => hn3 _ ?_⟩
      rw [List.length_map] at p1
      obtain ⟨p, rfl⟩ := Int.eq_ofNat_of_zero_le p0
      have hp : p < lv.length := by omega
      have hat : L2.atI (lv.map levR) (p : Int) = some (levR lv[p]) := at_nat (by rw [List.getElem?_map, List.getElem?_eq_getElem hp]; rfl)
      obtain ⟨r1, r5, rb⟩ := each lv[p] (List.getElem_mem _)
      have rl := rn.len
      have hix : ixN (r.map D.int).length (p : Int) = some p := by
        unfold ixN
        rw [if_pos (by omega), if_pos (by rw [List.length_map]; omega)]; rfl
      refine (?_ : wSetIx _ _ _ _ _)
      simp only [wSetIx, wFz]
      refine zero_ix hat r5 r1 bg3 (by omega) fun x o4 xm bg4 => ?_
      simp_all! only [hix]
      rw [← List.map_set]
      refine fin _ o4 _ (rn.set fun l hl' => ?_) (bg4.mono (by omega))
      rw [List.getElem?_eq_getElem hp] at hl'
      cases hl'
      exact xm
def S__law_rows : FSpec := fun args Q _ => ∃ (o : O) (m : Int) (lv : List (List Int)) (w : Nat), args = [.ow o, .fz (levD lv)] ∧ BagOk o m ∧ m < 700000000 ∧ 1 ≤ w ∧ w ≤ 8 ∧ LevOk w lv ∧ ∀ (rows : List (List Int)) (o' : O), rows.length ≤ 6 → (∀ r ∈ rows, RowL lv r) → BagOk o' (m + 130) → Q (.ow (.lst (rows.map rowD))) [.ow o', .fz (levD lv)]
theorem mS__law_rows : MonoF S__law_rows := ⟨fun h _ ⟨o, m, lv, w, a, b, c, d, e, f, q⟩ => ⟨o, m, lv, w, a, b, c, d, e, f, fun x y h0 h1 h2 => h _ _ (q x y h0 h1 h2)⟩⟩
theorem kp__law_rows : Keeps S__law_rows [0] 2 7 (w__law_rows S__law_take) where
  fit := fun args Q E ⟨o, m, w, _, e, _⟩ => e ▸ fitO2
  run := fun args Q E ⟨o, m, lv, w, e, bg, hm, w1, w8, ok, q⟩ => by
    subst e
    unfold w__law_rows
    refine seq_k fun K1 hn hr1 hb hct he => ?_
    walk_at "lv"
    refine ⟨Nat.zero_le _, hn _ (seq_k fun K2 hn2 hr2 hb2 hct2 he2 => ?_)⟩
    refine (?_ : wFor (.n 3) (wRng1 (wCons (wCall S__law_take (wCons (wVar 0) (wCons (wC (.int 7)) wNil))) wNil)) bRows _ _)
    simp_all! only [S__law_take]
    refine ⟨m, bg, by decide, by decide, by omega, fun t o1 t0 t1 bg1 => ?_⟩
    obtain ⟨n, rfl⟩ := Int.eq_ofNat_of_zero_le t0
    refine ⟨by unfold okR; omega, ?_⟩
    refine lp_rows K2 w w1 w8 lv ok n 0 [] o1 (m + 1) none none none (by omega) rfl (fun _ z => (nomatch z)) bg1 (by omega) fun rows' o' o3 o4 o5 h1 h2 h3 => hn2 _ ?_
    walk_at "lv"
    exact q rows' o' h1 h2 (h3.mono (by omega))
end LV


set_option Elab.async false
set_option linter.all false
set_option maxRecDepth 100000
set_option maxHeartbeats 400000
set_option exponentiation.threshold 10000
namespace LV
open PySem PySem.Spec L2
def bDrawn : SW := (wSeq (wSet 4 (wOp2 gIx (wVar 3) (wCall S__law_take (wCons (wVar 0) (wCons (wFrz (wBlt gLen (wCons (wVar 3) wNil))) wNil)))))
  (wSeq (wSet 5 (wCall S__law_take (wCons (wVar 0) (wCons (wC (.int 5)) wNil))))
  (wSeq (wSet 6 (wCall S__law_take (wCons (wVar 0) (wCons (wC (.int 4)) wNil))))
  (wIf (wB (wOp2 gEq (wVar 5) (wC (.int 4))))
  (wApp 2 (wCall S__law_take (wCons (wVar 0) (wCons (wFrz (wOp2 gPow (wC (.int 10)) (wC (.int 30)))) wNil))))
  (wApp 2 (wBlt gMax2 (wCons (wOp2 gAdd (wVar 4) (wOp2 gIx (wLst (wCons (wVar 6) (wCons (wOp2 gSub (wC (.int 0)) (wVar 6)) (wCons (wC (.int 0)) (wCons (wOp2 gSub (wC (.int 0)) (wVar 4)) wNil))))) (wVar 5))) (wCons (wC (.int 0)) wNil))))))))
theorem lp_drawn (K : Ks) (b : Option Val) : ∀ (lv : List (List Int)) (dn : List Int) (o : O) (m : Int) (o3 o4 o5 o6 : Option Val), (∀ r ∈ lv, 1 ≤ r.length ∧ r.length ≤ 5 ∧ ∀ x ∈ r, 1 ≤ x ∧ x < 10 ^ 30) → (∀ x ∈ dn, 0 ≤ x) → dn.length + lv.length ≤ 8 → BagOk o m → m + 4 * lv.length < 800000000 →
    (∀ (h : List Int) (o' : O) (o3 o4 o5 o6 : Option Val), h.length = dn.length + lv.length → (∀ x ∈ h, 0 ≤ x) → BagOk o' (m + 4 * lv.length) → K.nx [some (.ow o'), b, some (.ow (.lst (h.map D.int))), o3, o4, o5, o6]) →
    loopW (.n 3) bDrawn yesK K (lv.map levR) [some (.ow o), b, some (.ow (.lst (dn.map D.int))), o3, o4, o5, o6]
  | [], dn, o, m, o3, o4, o5, o6, hr, hd, hl, bg, hm, q => ⟨True.intro, q dn o _ _ _ _ rfl hd (bg.mono (by omega))⟩
  | r :: lv, dn, o, m, o3, o4, o5, o6, hr, hd, hl, bg, hm, q => by
    have sz := sizeLine_eq
    rw [List.length_cons] at hl hm
    obtain ⟨r1, r5, rb⟩ := hr r List.mem_cons_self
    refine ⟨True.intro, _, rfl, ?_⟩
    refine (?_ : wSeq _ _ _ _)
    refine seq_k fun K1 hn hr1 hb hct he => ?_
    simp only [List.set_cons_zero, List.set_cons_succ]
    simp_all! only [S__law_take]
    refine ⟨_, bg, by rw [List.length_map]; omega, by rw [List.length_map]; omega, by omega, fun u o1 u0 u1 bg1 => ?_⟩
    rw [List.length_map] at u1
    obtain ⟨x, hx, xm⟩ := at_row u0 u1
    have xb := rb x xm
    refine ⟨_, hx, hn _ (seq_k fun K2 hn2 hr2 hb2 hct2 he2 => ?_)⟩
    simp_all! only [S__law_take]
    refine ⟨_, bg1, by decide, by decide, by omega, fun t o2 t0 t1 bg2 => hn2 _ (seq_k fun K3 hn3 hr3 hb3 hct3 he3 => ?_)⟩
    simp_all! only [S__law_take]
    refine ⟨_, bg2, by decide, by decide, by omega, fun s o3 s0 s1 bg3 => hn3 _ (if_k fun G g0 g1 => ?_)⟩
    have fin : ∀ (y : Int) (o4 : O), 0 ≤ y → BagOk o4 (m + 4) → loopW (.n 3) bDrawn yesK K (lv.map levR) [some (.ow o4), b, some (.ow (.lst (dn.map D.int ++ [D.int y]))), some (.fz (levR r)), some (.fz (.int x)), some (.fz (.int t)), some (.fz (.int s))] := fun y o4 hy b4 => by
      rw [show dn.map D.int ++ [D.int y] = (dn ++ [y]).map D.int by rw [List.map_append]; rfl]
      refine lp_drawn K b lv (dn ++ [y]) o4 (m + 4) _ _ _ _ (fun s hs => hr s (List.mem_cons_of_mem _ hs)) (fun z hz => ?_) (by rw [List.length_append, List.length_singleton]; omega) b4 (by omega) fun h o' o3 o4 o5 o6 h1 h2 h3 => q h o' o3 o4 o5 o6 (by rw [h1, List.length_append, List.length_singleton, List.length_cons]; omega) h2 (h3.mono (by rw [List.length_cons]; omega))
      rcases List.mem_append.mp hz with z1 | z1
      · exact hd z z1
      · rw [List.mem_singleton.mp z1]; exact hy
    walk_at "lv"
    by_cases ht : t = 4
    · rw [show (t == (4 : Int)) = true by simp [ht]]
      refine g1 _ ?_
      have p30 : CPow 10 30 := ⟨by decide, by decide, by decide⟩
      simp_all! only [S__law_take]
      refine ⟨p30, _, bg3, by decide, by decide, by omega, fun y o4 y0 y1 bg4 => ⟨by rw [List.length_map]; omega, fin y o4 y0 (bg4.mono (by omega))⟩⟩
    · rw [show (t == (4 : Int)) = false by simp [ht]]
      refine g0 _ ?_
      have hat : ∃ y : Int, L2.atI [D.int s, D.int (0 - s), D.int 0, D.int (0 - x)] t = some (.int y) := by
        rcases (by omega : t = 0 ∨ t = 1 ∨ t = 2 ∨ t = 3) with rfl | rfl | rfl | rfl <;> exact ⟨_, rfl⟩
      obtain ⟨y, hat⟩ := hat
      simp_all! only [hat]
      refine ⟨by omega, by rw [List.length_map]; omega, fin _ o3 ?_ (bg3.mono (by omega))⟩
      split <;> omega
def S__law_drawn : FSpec := fun args Q _ => ∃ (o : O) (m : Int) (lv : List (List Int)) (w : Nat), args = [.ow o, .fz (levD lv)] ∧ BagOk o m ∧ m < 700000000 ∧ 1 ≤ w ∧ w ≤ 8 ∧ LevOk w lv ∧ ∀ (x : List Int) (o' : O), x.length = w → (∀ e ∈ x, 0 ≤ e) → BagOk o' (m + 32) → Q (.fz (rowD x)) [.ow o', .fz (levD lv)]
theorem mS__law_drawn : MonoF S__law_drawn := ⟨fun h _ ⟨o, m, lv, w, a, b, c, d, e, f, q⟩ => ⟨o, m, lv, w, a, b, c, d, e, f, fun x y h0 h1 h2 => h _ _ (q x y h0 h1 h2)⟩⟩
theorem kp__law_drawn : Keeps S__law_drawn [0] 2 7 (w__law_drawn S__law_take) where
  fit := fun args Q E ⟨o, m, w, _, e, _⟩ => e ▸ fitO2
  run := fun args Q E ⟨o, m, lv, w, e, bg, hm, w1, w8, ok, q⟩ => by
    subst e
    unfold w__law_drawn
    have ll := ok.len
    refine seq_k fun K1 hn hr1 hb hct he => ?_
    walk_at "lv"
    refine ⟨Nat.zero_le _, hn _ (seq_k fun K2 hn2 hr2 hb2 hct2 he2 => ?_)⟩
    refine (?_ : wFor (.n 3) (wIt [0] (wVar 1)) bDrawn _ _)
    walk_at "lv"
    refine lp_drawn K2 _ lv [] o m none none none none (ok.each w1 w8) (fun _ z => (nomatch z)) (by rw [List.length_nil]; omega) bg (by omega) fun h o' o3 o4 o5 o6 h1 h2 h3 => hn2 _ ?_
    rw [List.length_nil] at h1
    walk_at "lv"
    exact q h o' (by omega) h2 (h3.mono (by omega))
end LV


set_option Elab.async false
set_option linter.all false
set_option maxRecDepth 100000
set_option maxHeartbeats 400000
namespace LV
open PySem PySem.Spec L2
def S__law_over : FSpec := fun args Q _ => ∃ w xs ys, args = [.fz (rowD xs), .fz (rowD ys)] ∧ xs.length = w ∧ ys.length = w ∧ w ≤ 1000 ∧ Q (.fz (.bl (cov xs ys))) args
theorem mS__law_over : MonoF S__law_over := ⟨fun h _ ⟨w, o, a, b, c, d, e, q⟩ => ⟨w, o, a, b, c, d, e, h _ _ q⟩⟩
def bOver : SW := (wIf (wB (wOp2 gLt (wOp2 gIx (wVar 0) (wVar 2)) (wOp2 gIx (wVar 1) (wVar 2)))) (wRet [] (wC (.bl false))) wSkip)
theorem lp_over (K : Ks) (a b : List Int) (hl : a.length = b.length) : ∀ (j i : Nat) (o : Option Val), i + j = b.length → (cov (a.drop i) (b.drop i) = true → ∀ o, K.nx [some (.fz (rowD a)), some (.fz (rowD b)), o]) → (cov (a.drop i) (b.drop i) = false → ∀ o, K.rt (.fz (.bl false)) [some (.fz (rowD a)), some (.fz (rowD b)), o]) →
    loopW (.n 2) bOver yesK K (rngD (i : Int) j) [some (.fz (rowD a)), some (.fz (rowD b)), o]
  | 0, i, o, e, q, _ => ⟨True.intro, q (by rw [List.drop_eq_nil_of_le (by omega : b.length ≤ i)]; unfold cov; simp) o⟩
  | j + 1, i, o, e, q, q' => by
    have ha := List.drop_eq_getElem_cons (l := a) (i := i) (by omega)
    have hb := List.drop_eq_getElem_cons (l := b) (i := i) (by omega)
    have eu : cov (a.drop i) (b.drop i) = (decide (b[i] ≤ a[i]) && cov (a.drop (i + 1)) (b.drop (i + 1))) := by rw [ha, hb, cov_cons]
    rw [eu] at q q'
    have a1 : L2.atI (a.map D.int) (i : Int) = some (D.int a[i]) := at_nat (by rw [List.getElem?_map, List.getElem?_eq_getElem (by omega)]; rfl)
    have b1 : L2.atI (b.map D.int) (i : Int) = some (D.int b[i]) := at_nat (by rw [List.getElem?_map, List.getElem?_eq_getElem (by omega)]; rfl)
    generalize a[i] = x at *
    generalize b[i] = y at *
    refine ⟨True.intro, _, rfl, ?_⟩
    refine (?_ : wIf _ _ _ _ _)
    refine if_k fun G g0 g1 => ?_
    simp_all! only [b1, a1]
    by_cases h : x < y
    · rw [decide_eq_true h]
      refine g1 _ ?_
      walk_at "lv"
      exact q' (by rw [decide_eq_false (by omega)]; rfl) _
    · rw [decide_eq_false h]
      refine g0 _ ?_
      rw [decide_eq_true (by omega), Bool.true_and] at q q'
      have ih := lp_over K a b hl j (i + 1) (some (.fz (.int i))) (by omega) q q'
      rw [show ((i + 1 : Nat) : Int) = (i : Int) + 1 by omega] at ih
      exact ih
theorem kp__law_over : Keeps S__law_over [] 2 3 w__law_over where
  fit := fun args Q E ⟨w, xs, ys, a, _⟩ => a ▸ fit2
  run := fun args Q E ⟨w, a, b, e, h1, h2, hw, q⟩ => by
    subst e
    unfold w__law_over
    refine seq_k fun K1 hn hr hb hct he => ?_
    refine (?_ : wFor (.n 2) (wRng1 (wCons (wBlt gLen (wCons (wVar 1) wNil)) wNil)) bOver _ _)
    walk_at "lv"
    refine ⟨by rw [List.length_map]; unfold okR; omega, ?_⟩
    rw [List.length_map, Int.toNat_natCast]
    refine lp_over K1 a b (h1.trans h2.symm) b.length 0 none (by omega) (fun h o => hn _ ?_) (fun h o => ?_)
    · walk_at "lv"
      have h : cov a b = true := h
      rw [← h]; exact q
    · rw [hr]
      walk_at "lv"
      have h : cov a b = false := h
      rw [← h]; exact q
/-! ### _law_keeps_out -/
def S__law_keeps_out : FSpec := fun args Q _ => ∃ (h : High) (r : List Int), args = [.fz (highD h), .fz (rowD r)] ∧ h.length = r.length ∧ r.length ≤ 1000 ∧ Q (.fz (.bl (!under (rowH r) h))) args
theorem mS__law_keeps_out : MonoF S__law_keeps_out := ⟨fun h _ ⟨o, a, b, c, d, q⟩ => ⟨o, a, b, c, d, h _ _ q⟩⟩
def bKeep : SW := (wIf (wtAnd (wB (wOp2 gIsNotN (wOp2 gIx (wVar 0) (wVar 2)) (wC .non))) (wB (wOp2 gLt (wOp2 gIx (wVar 0) (wVar 2)) (wOp2 gIx (wVar 1) (wVar 2))))) (wRet [] (wC (.bl true))) wSkip)
theorem lp_keep (K : Ks) (a : High) (b : List Int) (hl : a.length = b.length) : ∀ (j i : Nat) (o : Option Val), i + j = b.length → (under (rowH (b.drop i)) (a.drop i) = true → ∀ o, K.nx [some (.fz (highD a)), some (.fz (rowD b)), o]) → (under (rowH (b.drop i)) (a.drop i) = false → ∀ o, K.rt (.fz (.bl true)) [some (.fz (highD a)), some (.fz (rowD b)), o]) →
    loopW (.n 2) bKeep yesK K (rngD (i : Int) j) [some (.fz (highD a)), some (.fz (rowD b)), o]
  | 0, i, o, e, q, _ => ⟨True.intro, q (by rw [List.drop_eq_nil_of_le (by omega : b.length ≤ i)]; unfold under; simp) o⟩
  | j + 1, i, o, e, q, q' => by
    have ha := List.drop_eq_getElem_cons (l := a) (i := i) (by omega)
    have hb := List.drop_eq_getElem_cons (l := b) (i := i) (by omega)
    have eu : under (rowH (b.drop i)) (a.drop i) = (leB (some b[i]) a[i] && under (rowH (b.drop (i + 1))) (a.drop (i + 1))) := by rw [ha, hb]; rfl
    rw [eu] at q q'
    have a1 : L2.atI (a.map entD) (i : Int) = some (entD a[i]) := at_nat (by rw [List.getElem?_map, List.getElem?_eq_getElem (by omega)]; rfl)
    have b1 : L2.atI (b.map D.int) (i : Int) = some (D.int b[i]) := at_nat (by rw [List.getElem?_map, List.getElem?_eq_getElem (by omega)]; rfl)
    generalize a[i] = x at *
    generalize b[i] = y at *
    have go : leB (some y) x = true → loopW (.n 2) bKeep yesK K (rngD ((i : Int) + 1) j) [some (.fz (highD a)), some (.fz (rowD b)), some (.fz (.int i))] := fun h => by
      rw [h, Bool.true_and] at q q'
      have ih := lp_keep K a b hl j (i + 1) (some (.fz (.int i))) (by omega) q q'
      rw [show ((i + 1 : Nat) : Int) = (i : Int) + 1 by omega] at ih
      exact ih
    refine ⟨True.intro, _, rfl, ?_⟩
    refine (?_ : wIf _ _ _ _ _)
    refine if_k fun G g0 g1 => ?_
    simp_all! only [b1, a1]
    cases x with
    | none => simp_all! only [entD]; exact g0 _ (go rfl)
    | some x =>
      simp_all! only [entD]
      by_cases h : x < y
      · rw [decide_eq_true h]
        refine g1 _ ?_
        walk_at "lv"
        exact q' (by rw [show leB (some y) (some x) = false from decide_eq_false (by omega)]; rfl) _
      · rw [decide_eq_false h]
        exact g0 _ (go (decide_eq_true (by omega)))
theorem kp__law_keeps_out : Keeps S__law_keeps_out [] 2 3 w__law_keeps_out where
  fit := fun args Q E ⟨xs, ys, a, _⟩ => a ▸ fit2
  run := fun args Q E ⟨a, b, e, h1, hw, q⟩ => by
    subst e
    unfold w__law_keeps_out
    refine seq_k fun K1 hn hr hb hct he => ?_
    refine (?_ : wFor (.n 2) (wRng1 (wCons (wBlt gLen (wCons (wVar 1) wNil)) wNil)) bKeep _ _)
    walk_at "lv"
    refine ⟨by rw [List.length_map]; unfold okR; omega, ?_⟩
    rw [List.length_map, Int.toNat_natCast]
    refine lp_keep K1 a b h1 b.length 0 none (by omega) (fun h o => hn _ ?_) (fun h o => ?_)
    · walk_at "lv"
      have h : under (rowH b) a = true := h
      rw [h] at q; exact q
    · rw [hr]
      walk_at "lv"
      have h : under (rowH b) a = false := h
      rw [h] at q; exact q
end LV


set_option Elab.async false
set_option linter.all false
set_option maxRecDepth 100000
set_option maxHeartbeats 400000
namespace LV
open PySem PySem.Spec L2
def unI : D → Int
  | .int i => i
  | _ => 0
def unR : D → List Int
  | .tup ds => ds.map unI
  | _ => []
theorem unR_row (r : List Int) : unR (rowD r) = r := by
  show (r.map D.int).map unI = r
  rw [List.map_map]
  simp [Function.comp_def, unI]
theorem okE_ent (x : Option Int) : (entD x).okE = true := by cases x <;> rfl
theorem eqvD_ent (x y : Option Int) : eqvD (entD x) (entD y) = decide (x = y) := eqv_ent x y
def S__law_good : FSpec := fun args Q _ => ∃ (k H : High) (K : List High) (R : List (List Int)) (w : Nat), args = [.fz (highD k), .fz (highD H), .fz (.lst (R.map rowD))] ∧ Outs w H R K ∧ k ∈ K ∧ H.length = w ∧ (∀ r ∈ R, r.length = w) ∧ w ≤ 8 ∧ R.length ≤ 1000 ∧ Q (.fz (.bl true)) args
theorem mS__law_good : MonoF S__law_good := ⟨fun h _ ⟨o, a, b, c, w, d, p1, p2, p3, p4, p5, p6, q⟩ => ⟨o, a, b, c, w, d, p1, p2, p3, p4, p5, p6, h _ _ q⟩⟩
def bGood : SW := (wIf (wtAnd (wB (wOp2 gIsNotN (wOp2 gIx (wVar 0) (wVar 4)) (wC .non))) (wB (wOp2 gNe (wOp2 gIx (wVar 0) (wVar 4)) (wOp2 gIx (wVar 1) (wVar 4)))))
  (wSeq (wSet 5 (wOp2 gAdd (wOp2 gAdd (wSl (wVar 0) wNoP (wPt (wVar 4))) (wTup (wCons (wOp2 gAdd (wOp2 gIx (wVar 0) (wVar 4)) (wC (.int 1))) wNil))) (wSl (wVar 0) (wPt (wOp2 gAdd (wVar 4) (wC (.int 1)))) wNoP)))
  (wIf (wTru (wBlt gAll (wCons (wLc (.n 3) (wIt [] (wVar 2)) uYes (wCall S__law_keeps_out (wCons (wFrz (wVar 5)) (wCons (wFrz (wVar 3)) wNil))) [3]) wNil)))
  (wRet [] (wC (.bl false)))
  wSkip))
  wSkip)
theorem lp_good (Kk : Ks) {k H : High} {K : List High} {R : List (List Int)} {w : Nat} (o : Outs w H R K) (hk : k ∈ K) (lH : H.length = w) (lR : ∀ r ∈ R, r.length = w) (w8 : w ≤ 8) (hR : R.length ≤ 1000)
    (q : ∀ o3 o4 o5, Kk.nx [some (.fz (highD k)), some (.fz (highD H)), some (.fz (.lst (R.map rowD))), o3, o4, o5]) : ∀ (j i : Nat) (o3 o4 o5 : Option Val), i + j = w →
    loopW (.n 4) bGood yesK Kk (rngD (i : Int) j) [some (.fz (highD k)), some (.fz (highD H)), some (.fz (.lst (R.map rowD))), o3, o4, o5]
  | 0, i, o3, o4, o5, e => ⟨True.intro, q _ _ _⟩
  | j + 1, i, o3, o4, o5, e => by
    have sz := sizeLine_eq
    have lk := o.len k hk
    obtain ⟨x, hx⟩ : ∃ x, k[i]? = some x := ⟨_, List.getElem?_eq_getElem (by omega)⟩
    obtain ⟨y, hy⟩ : ∃ y, H[i]? = some y := ⟨_, List.getElem?_eq_getElem (by omega)⟩
    have a1 : L2.atI (k.map entD) (i : Int) = some (entD x) := at_nat (by rw [List.getElem?_map, hx]; rfl)
    have b1 : L2.atI (H.map entD) (i : Int) = some (entD y) := at_nat (by rw [List.getElem?_map, hy]; rfl)
    have next : ∀ o3 o4 o5, loopW (.n 4) bGood yesK Kk (rngD ((i : Int) + 1) j) [some (.fz (highD k)), some (.fz (highD H)), some (.fz (.lst (R.map rowD))), o3, o4, o5] := fun o3 o4 o5 => by
      rw [show (i : Int) + 1 = ((i + 1 : Nat) : Int) by omega]
      exact lp_good Kk o hk lH lR w8 hR q j (i + 1) o3 o4 o5 (by omega)
    refine ⟨True.intro, _, rfl, ?_⟩
    refine (?_ : wIf _ _ _ _ _)
    refine if_k fun G g0 g1 => ?_
    simp_all! only [b1, a1, okE_ent, eqvD_ent]
    cases x with
    | none => simp_all! only [entD]; exact g0 _ (next _ _ _)
    | some x =>
      simp_all! only [entD]
      by_cases h : some x = y
      · rw [decide_eq_true h]
        exact g0 _ (next _ _ _)
      · rw [decide_eq_false h]
        refine g1 _ (seq_k fun K1 hn1 hr1 hb1 hct1 he1 => ?_)
        have e1 : (i : Int) + 1 = ((i + 1 : Nat) : Int) := by omega
        have a1 : L2.atI (k.map entD) (i : Int) = some (.int x) := a1
        simp_all! only [a1]
        rw [e1]
        simp_all! only [cut_take, cut_drop]
        refine ⟨by omega, by rw [List.length_take, List.length_map]; omega, by simp; omega, hn1 _ ?_⟩
        rw [show D.tup ((k.map entD).take i ++ [D.int (x + 1)] ++ (k.map entD).drop (i + 1)) = highD (k.set i (some (x + 1))) from congrArg D.tup (cutset (v := some (x + 1)) (by omega))]
        have ra := o.raise lH hk hx hy h
        have lset : (k.set i (some (x + 1))).length = w := by rw [List.length_set]; exact lk
        generalize k.set i (some (x + 1)) = k2 at *
        refine if_k fun G g0 g1 => ?_
        unfold wLc
        walk_at "lv"
        simp only [wipeE, List.set_cons_zero, List.set_cons_succ]
        refine cw_map (fun d => .bl (!under (rowH (unR d)) k2)) True.intro _ (fun d hd => ?_) (by rw [List.length_map]; omega) ⟨R.map fun r => !under (rowH r) k2, ?_, ?_⟩
        · obtain ⟨r, hr, rfl⟩ := List.mem_map.mp hd
          refine ⟨_, rfl, rfl, fun G g => ?_⟩
          walk_at "lv"
          refine ⟨k2, r, rfl, lset.trans (lR r hr).symm, by rw [lR r hr]; omega, ?_⟩
          walk_at "lv"
          rw [unR_row] at g
          exact g
        · rw [List.map_map, List.map_map]
          congr 1
          refine congrArg _ (List.map_congr_left fun r _ => ?_)
          show D.bl (!under (rowH (unR (rowD r))) k2) = _
          rw [unR_row]; rfl
        · rw [List.all_map, show (R.all (id ∘ fun r => !under (rowH r) k2)) = false from ra]
          walk_at "lv"
          refine g0 _ ?_
          walk_at "lv"
          exact next _ _ _
theorem kp__law_good : Keeps S__law_good [] 3 6 (w__law_good S__law_below S__law_keeps_out) where
  fit := fun args Q E ⟨_, _, _, _, _, a, _⟩ => a ▸ fit3
  run := fun args Q E ⟨k, H, K, R, w, e, o, hk, lH, lR, w8, hR, q⟩ => by
    subst e
    unfold w__law_good
    have sz := sizeLine_eq
    have lk := o.len k hk
    refine seq_k fun K1 hn1 hr1 hb1 hct1 he1 => ?_
    walk_at "lv"
    refine ⟨k, H, rfl, lk.trans lH.symm, by omega, ?_⟩
    rw [o.le k hk]
    walk_at "lv"
    refine hn1 _ (seq_k fun K2 hn2 hr2 hb2 hct2 he2 => ?_)
    walk_at "lv"
    refine lp_each (fun o => [some (.fz (highD k)), some (.fz (highD H)), some (.fz (.lst (R.map rowD))), o, none, none]) (fun _ => True.intro) (fun o3 => ?_) _ (fun d hd o3 => ?_) none
    · refine hn2 _ (seq_k fun K3 hn3 hr3 hb3 hct3 he3 => ?_)
      refine (?_ : wFor (.n 4) (wRng1 (wCons (wBlt gLen (wCons (wVar 1) wNil)) wNil)) bGood _ _)
      walk_at "lv"
      refine ⟨by rw [List.length_map]; unfold okR; omega, ?_⟩
      rw [List.length_map, Int.toNat_natCast, lH]
      refine lp_good K3 o hk lH lR w8 hR (fun o3 o4 o5 => hn3 _ ?_) w 0 _ _ _ (by omega)
      walk_at "lv"
      exact q
    · obtain ⟨r, hr, rfl⟩ := List.mem_map.mp hd
      refine ⟨_, rfl, fun K' hK' => ?_⟩
      walk_at "lv"
      refine ⟨k, r, rfl, lk.trans (lR r hr).symm, by rw [lR r hr]; omega, ?_⟩
      rw [o.out k hk r hr]
      walk_at "lv"
      exact hK' _
end LV


set_option Elab.async false
set_option linter.all false
set_option maxRecDepth 100000
set_option maxHeartbeats 400000
namespace LV
open PySem PySem.Spec L2
/-! ### _law_outside -/
def S__law_outside : FSpec := fun args Q _ => ∃ (K : List High) (H : High) (R : List (List Int)) (x : List Int) (w : Nat), args = [.fz (.lst (K.map highD)), .fz (highD H), .fz (.lst (R.map rowD)), .fz (rowD x)] ∧ Outs w H R K ∧ H.length = w ∧ (∀ r ∈ R, r.length = w) ∧ x.length = w ∧ (∀ e ∈ x, 0 ≤ e) ∧ w ≤ 8 ∧ Q (.fz (.bl true)) args
theorem mS__law_outside : MonoF S__law_outside := ⟨fun h _ ⟨o, a, b, c, w, p0, p1, p2, p3, p4, p5, p6, q⟩ => ⟨o, a, b, c, w, p0, p1, p2, p3, p4, p5, p6, h _ _ q⟩⟩
theorem fit4 {pn : List Nat} {d d' d'' d3 : D} : ArgsFit pn 4 [.fz d, .fz d', .fz d'', .fz d3] := ⟨rfl, fun j o h => by rcases j with _ | _ | _ | _ | j <;> simp at h, fun j a C ks vs h => by rcases j with _ | _ | _ | _ | j <;> simp at h⟩
def bOut1 : SW := (wIf (wtAnd (wTru (wVar 4)) (wTru (wCall S__law_over (wCons (wFrz (wVar 3)) (wCons (wFrz (wVar 5)) wNil)))))
  (wSet 4 (wC (.bl false)))
  wSkip)
def bOut2 : SW := (wIf (wTru (wCall S__law_below (wCons (wFrz (wVar 3)) (wCons (wFrz (wVar 6)) wNil))))
  (wRet [] (wVar 4))
  wSkip)
theorem lp_out1 (K : Ks) (a b c : Option Val) (x : List Int) (w : Nat) (lx : x.length = w) (w8 : w ≤ 8) : ∀ (R : List (List Int)) (d : Bool) (o5 : Option Val), (∀ r ∈ R, r.length = w) →
    (∀ o5, K.nx [a, b, c, some (.fz (rowD x)), some (.fz (.bl (d && R.all fun r => !cov x r))), o5, none]) →
    loopW (.n 5) bOut1 yesK K (R.map rowD) [a, b, c, some (.fz (rowD x)), some (.fz (.bl d)), o5, none]
  | [], d, o5, _, q => ⟨True.intro, by have := q o5; rw [List.all_nil, Bool.and_true] at this; exact this⟩
  | r :: R, d, o5, hR, q => by
    have lr := hR r List.mem_cons_self
    have ih := fun d o5 q => lp_out1 K a b c x w lx w8 R d o5 (fun s hs => hR s (List.mem_cons_of_mem _ hs)) q
    rw [List.all_cons] at q
    refine ⟨True.intro, _, rfl, ?_⟩
    refine (?_ : wIf _ _ _ _ _)
    refine if_k fun G g0 g1 => ?_
    walk_at "lv"
    cases d with
    | false =>
      refine iteB (fun z => (nomatch z)) fun _ => g0 _ (ih false _ q)
    | true =>
      refine iteB (fun _ => ?_) fun z => (nomatch z)
      refine ⟨w, x, r, rfl, lx, lr, by omega, ?_⟩
      walk_at "lv"
      cases hc : cov x r with
      | true =>
        rw [hc] at q
        refine g1 _ ?_
        walk_at "lv"
        exact ih false _ q
      | false =>
        rw [hc] at q
        exact g0 _ (ih true _ q)
theorem lp_out2 (K : Ks) (a b c d o5 : Option Val) (x : List Int) (w : Nat) (lx : x.length = w) (w8 : w ≤ 8) : ∀ (L : List High) (o6 : Option Val), (∀ k ∈ L, k.length = w) →
    ((L.any fun k => under (rowH x) k) = false → ∀ o6, K.nx [a, b, c, some (.fz (rowD x)), d, o5, o6]) →
    ((L.any fun k => under (rowH x) k) = true → ∀ o6, wRet [] (wVar 4) K [a, b, c, some (.fz (rowD x)), d, o5, o6]) →
    loopW (.n 6) bOut2 yesK K (L.map highD) [a, b, c, some (.fz (rowD x)), d, o5, o6]
  | [], o6, _, q, _ => ⟨True.intro, q rfl _⟩
  | k :: L, o6, hL, q, q' => by
    have lk := hL k List.mem_cons_self
    rw [List.any_cons] at q q'
    refine ⟨True.intro, _, rfl, ?_⟩
    refine (?_ : wIf _ _ _ _ _)
    refine if_k fun G g0 g1 => ?_
    walk_at "lv"
    refine ⟨rowH x, k, by rw [rowD_high], by rw [List.length_map, lx, lk], by omega, ?_⟩
    walk_at "lv"
    cases hu : under (rowH x) k with
    | true =>
      rw [hu] at q'
      exact g1 _ (q' rfl _)
    | false =>
      rw [hu] at q q'
      exact g0 _ (lp_out2 K a b c d o5 x w lx w8 L _ (fun s hs => hL s (List.mem_cons_of_mem _ hs)) q q')
theorem kp__law_outside : Keeps S__law_outside [] 4 7 (w__law_outside S__law_below S__law_over) where
  fit := fun args Q E ⟨_, _, _, _, _, a, _⟩ => a ▸ fit4
  run := fun args Q E ⟨K, H, R, x, w, e, o, lH, lR, lx, nx, w8, q⟩ => by
    subst e
    unfold w__law_outside
    have row := o.row lH lR lx nx
    refine seq_k fun K1 hn1 hr1 hb1 hct1 he1 => ?_
    walk_at "lv"
    refine ⟨rowH x, H, by rw [rowD_high], by rw [List.length_map, lx, lH], by omega, ?_⟩
    walk_at "lv"
    refine hn1 _ (seq_k fun K2 hn2 hr2 hb2 hct2 he2 => ?_)
    refine (?_ : wFor (.n 5) (wIt [] (wVar 2)) bOut1 _ _)
    walk_at "lv"
    refine lp_out1 K2 _ _ _ x w lx w8 R _ none lR fun o5 => hn2 _ (seq_k fun K3 hn3 hr3 hb3 hct3 he3 => ?_)
    rw [← row]
    refine (?_ : wFor (.n 6) (wIt [] (wVar 0)) bOut2 _ _)
    walk_at "lv"
    refine lp_out2 K3 _ _ _ _ o5 x w lx w8 K none o.len (fun z o6 => hn3 _ ?_) fun z o6 => ?_
    · rw [z]
      walk_at "lv"
      exact q
    · rw [z]
      simp only [wRet]
      rw [hr3]
      walk_at "lv"
      exact q
end LV


set_option Elab.async false
set_option linter.all false
set_option maxRecDepth 100000
set_option maxHeartbeats 400000
namespace LV
open PySem PySem.Spec L2
/-! ### _law_values, _law_cube -/
theorem okE_lints (r : List Int) : (levR r).okE = true := by
  show (plainL (r.map D.int) && (PyData.canLayAll0 (pdL (r.map D.int)) && decide (PyData.depthAll (pdL (r.map D.int)) + 1 ≤ 64))) = true
  rw [plainL_ints, lay_ints, deep_ints]; rfl
def S__law_values : FSpec := fun args Q _ => ∃ (lv : List (List Int)) (H : High) (k w : Nat), args = [.fz (levD lv), .fz (highD H), .fz (.int k)] ∧ 1 ≤ w ∧ w ≤ 8 ∧ LevOk w lv ∧ HighOk w (10 ^ 30) H ∧ k < w ∧ ∀ es : List Int, es.length ≤ 7 → (∀ e ∈ es, 0 ≤ e) → Q (.ow (.lst (es.map D.int))) args
theorem mS__law_values : MonoF S__law_values := ⟨fun h _ ⟨o, a, b, c, d, p1, p2, p3, p4, p5, q⟩ => ⟨o, a, b, c, d, p1, p2, p3, p4, p5, fun es x y => h _ _ (q es x y)⟩⟩
theorem kp__law_values : Keeps S__law_values [] 3 4 w__law_values where
  fit := fun args Q E ⟨_, _, _, _, a, _⟩ => a ▸ fit3
  run := fun args Q E ⟨lv, H, k, w, e, w1, w8, ok, hH, hk, q⟩ => by
    subst e
    unfold w__law_values
    have sz := sizeLine_eq
    have ll := ok.len
    have lH := hH.len
    obtain ⟨l, hl⟩ : ∃ l, lv[k]? = some l := ⟨_, List.getElem?_eq_getElem (by omega)⟩
    obtain ⟨y, hy⟩ : ∃ y, H[k]? = some y := ⟨_, List.getElem?_eq_getElem (by omega)⟩
    have a1 : L2.atI (lv.map levR) (k : Int) = some (levR l) := at_nat (by rw [List.getElem?_map, hl]; rfl)
    have b1 : L2.atI (H.map entD) (k : Int) = some (entD y) := at_nat (by rw [List.getElem?_map, hy]; rfl)
    obtain ⟨l1, l5, lb⟩ := ok.each w1 w8 l (List.mem_of_getElem? hl)
    have yb := hH.bd y (List.mem_of_getElem? hy)
    refine seq_k fun K1 hn1 hr1 hb1 hct1 he1 => ?_
    simp_all! only [a1]
    refine ⟨by omega, by rw [List.length_map]; omega, hn1 _ (seq_k fun K2 hn2 hr2 hb2 hct2 he2 => ?_)⟩
    have fin : ∀ es : List Int, es.length ≤ 7 → (∀ e ∈ es, 0 ≤ e) → K2.nx [some (.fz (levD lv)), some (.fz (highD H)), some (.fz (.int k)), some (.ow (.lst (es.map D.int)))] := fun es h1 h2 => by
      refine hn2 _ ?_
      walk_at "lv"
      exact q es h1 h2
    have base : (0 :: l).length ≤ 6 ∧ ∀ e ∈ 0 :: l, 0 ≤ e := ⟨by rw [List.length_cons]; omega, fun e he => by
      rcases List.mem_cons.mp he with z | z
      · omega
      · have := lb e z; omega⟩
    rw [show D.int 0 :: l.map D.int = (0 :: l).map D.int from rfl]
    generalize 0 :: l = es at base
    refine if_k fun G g0 g1 => ?_
    have h0 : G false [some (.fz (levD lv)), some (.fz (highD H)), some (.fz (.int k)), some (.ow (.lst (es.map D.int)))] := g0 _ (fin es (by omega) base.2)
    have h1 : ∀ z : Int, y = some z → G true [some (.fz (levD lv)), some (.fz (highD H)), some (.fz (.int k)), some (.ow (.lst (es.map D.int)))] := fun z hz => g1 _ (by
      subst hz
      have b1 : L2.atI (H.map entD) (k : Int) = some (.int z) := b1
      simp_all! only [b1]
      refine ⟨by rw [List.length_map]; omega, ?_⟩
      rw [show es.map D.int ++ [D.int (z + 1)] = (es ++ [z + 1]).map D.int by rw [List.map_append]; rfl]
      refine fin _ (by rw [List.length_append, List.length_singleton]; omega) fun e he => ?_
      rcases List.mem_append.mp he with u | u
      · exact base.2 e u
      · have := yb z rfl
        rw [List.mem_singleton.mp u]; omega)
    simp_all! only [b1]
    refine iteB (fun _ => ?_) fun _ => h0
    cases y with
    | none => simp_all! only [entD]; exact h0
    | some z =>
      simp_all! only [entD]
      rw [okE_lints]
      refine ⟨rfl, _, rfl, ?_⟩
      generalize ((pdL (es.map D.int)).any fun u => PyData.eqv u (D.int (z + 1)).pd) = bb
      cases bb with
      | true => exact h0
      | false => exact h1 z rfl
def S__law_cube : FSpec := fun args Q _ => ∃ (lv : List (List Int)) (H : High) (w : Nat), args = [.fz (levD lv), .fz (highD H)] ∧ 1 ≤ w ∧ w ≤ 8 ∧ LevOk w lv ∧ HighOk w (10 ^ 30) H ∧ ∀ rows : List (List Int), (∀ r ∈ rows, r.length = w ∧ ∀ e ∈ r, 0 ≤ e) → Q (.fz (.lst (rows.map rowD))) args
theorem mS__law_cube : MonoF S__law_cube := ⟨fun h _ ⟨o, a, b, d, p1, p2, p3, p4, q⟩ => ⟨o, a, b, d, p1, p2, p3, p4, fun es x => h _ _ (q es x)⟩⟩
def bC2 : SW := (wApp 4 (wOp2 gAdd (wVar 5) (wTup (wCons (wVar 6) wNil))))
theorem lp_c2 (K : Ks) (a b c d : Option Val) (row : List Int) (n : Nat) (hn : row.length ≤ 8) : ∀ (es : List Int) (acc : List (List Int)) (o6 : Option Val), acc.length + es.length ≤ n → n ≤ 5764801 →
    (∀ o6, K.nx [a, b, c, d, some (.ow (.lst ((acc ++ es.map fun e => row ++ [e]).map rowD))), some (.fz (rowD row)), o6]) →
    loopW (.n 6) bC2 yesK K (es.map D.int) [a, b, c, d, some (.ow (.lst (acc.map rowD))), some (.fz (rowD row)), o6]
  | [], acc, o6, _, _, q => ⟨True.intro, by have := q o6; rw [List.map_nil, List.append_nil] at this; exact this⟩
  | e :: es, acc, o6, h1, h2, q => by
    have sz := sizeLine_eq
    rw [List.length_cons] at h1
    refine ⟨True.intro, _, rfl, ?_⟩
    refine (?_ : wApp 4 (wOp2 gAdd (wVar 5) (wTup (wCons (wVar 6) wNil))) _ _)
    simp only [List.set_cons_zero, List.set_cons_succ]
    walk_at "lv"
    refine ⟨by omega, by rw [List.length_map]; omega, by rw [List.length_map]; omega, ?_⟩
    rw [show acc.map rowD ++ [D.tup (row.map D.int ++ [D.int e])] = (acc ++ [row ++ [e]]).map rowD by rw [List.map_append]; show _ = _ ++ [D.tup _]; rw [List.map_append]; rfl]
    refine lp_c2 K a b c d row n hn es (acc ++ [row ++ [e]]) _ (by rw [List.length_append, List.length_singleton]; omega) h2 fun o6 => ?_
    have := q o6
    rw [List.map_cons] at this
    rw [List.append_assoc]; exact this
def bC1 : SW := (wFor (.n 6) (wIt [] (wCall S__law_values (wCons (wFrz (wVar 0)) (wCons (wFrz (wVar 1)) (wCons (wFrz (wVar 3)) wNil))))) bC2)
theorem lp_c1 (K : Ks) (lv : List (List Int)) (H : High) (w k : Nat) (w1 : 1 ≤ w) (w8 : w ≤ 8) (ok : LevOk w lv) (hH : HighOk w (10 ^ 30) H) (hk : k < w) (c : Option Val) : ∀ (rows acc : List (List Int)) (o5 o6 : Option Val), (∀ r ∈ rows, r.length = k ∧ ∀ e ∈ r, 0 ≤ e) → (∀ r ∈ acc, r.length = k + 1 ∧ ∀ e ∈ r, 0 ≤ e) → acc.length + 7 * rows.length ≤ 5764801 →
    (∀ (acc' : List (List Int)) (o5 o6 : Option Val), (∀ r ∈ acc', r.length = k + 1 ∧ ∀ e ∈ r, 0 ≤ e) → acc'.length ≤ acc.length + 7 * rows.length → K.nx [some (.fz (levD lv)), some (.fz (highD H)), c, some (.fz (.int k)), some (.ow (.lst (acc'.map rowD))), o5, o6]) →
    loopW (.n 5) bC1 yesK K (rows.map rowD) [some (.fz (levD lv)), some (.fz (highD H)), c, some (.fz (.int k)), some (.ow (.lst (acc.map rowD))), o5, o6]
  | [], acc, o5, o6, hr, ha, hb, q => ⟨True.intro, q acc o5 o6 ha (by omega)⟩
  | row :: rows, acc, o5, o6, hr, ha, hb, q => by
    rw [List.length_cons] at hb
    obtain ⟨rl, rn⟩ := hr row List.mem_cons_self
    refine ⟨True.intro, _, rfl, ?_⟩
    refine (?_ : wFor _ _ _ _ _)
    simp only [List.set_cons_zero, List.set_cons_succ, wFor, wIt]
    walk_at "lv"
    refine ⟨lv, H, k, w, rfl, w1, w8, ok, hH, hk, fun es e7 en => ?_⟩
    walk_at "lv"
    refine lp_c2 _ _ _ _ _ row (acc.length + es.length) (by omega) es acc _ (Nat.le_refl _) (by omega) fun o6 => ?_
    refine lp_c1 K lv H w k w1 w8 ok hH hk c rows (acc ++ es.map fun e => row ++ [e]) _ o6 (fun r h => hr r (List.mem_cons_of_mem _ h)) (fun r h => ?_) (by rw [List.length_append, List.length_map]; omega) fun acc' o5 o6 h1 h2 => q acc' o5 o6 h1 (by rw [List.length_append, List.length_map] at h2; rw [List.length_cons]; omega)
    rcases List.mem_append.mp h with z | z
    · exact ha r z
    · obtain ⟨e, he, rfl⟩ := List.mem_map.mp z
      refine ⟨by rw [List.length_append, rl]; rfl, fun x hx => ?_⟩
      rcases List.mem_append.mp hx with u | u
      · exact rn x u
      · rw [List.mem_singleton.mp u]; exact en e he
def bCube : SW := (wSeq (wSet 4 (wLst wNil))
  (wSeq (wFor (.n 5) (wIt [] (wVar 2)) bC1)
  (wSet 2 (wVar 4))))
theorem lp_cube (K : Ks) (lv : List (List Int)) (H : High) (w : Nat) (w1 : 1 ≤ w) (w8 : w ≤ 8) (ok : LevOk w lv) (hH : HighOk w (10 ^ 30) H)
    (q : ∀ (rows : List (List Int)) (v2 : Val) (o3 o4 o5 o6 : Option Val), (v2 = .fz (.lst (rows.map rowD))) → (∀ r ∈ rows, r.length = w ∧ ∀ e ∈ r, 0 ≤ e) → K.nx [some (.fz (levD lv)), some (.fz (highD H)), some v2, o3, o4, o5, o6]) : ∀ (j k : Nat) (rows : List (List Int)) (v2 : Val) (o3 o4 o5 o6 : Option Val), k + j = w → (v2 = .fz (.lst (rows.map rowD)) ∨ (v2 = .ow (.lst (rows.map rowD)) ∧ k = 0)) → (∀ r ∈ rows, r.length = k ∧ ∀ e ∈ r, 0 ≤ e) → rows.length ≤ 7 ^ k →
    loopW (.n 3) bCube yesK K (rngD (k : Int) j) [some (.fz (levD lv)), some (.fz (highD H)), some v2, o3, o4, o5, o6]
  | 0, k, rows, v2, o3, o4, o5, o6, e, hv, hr, hl => ⟨True.intro, by
    rcases hv with hv | ⟨_, h0⟩
    · exact q rows v2 o3 o4 o5 o6 hv fun r h => by have := hr r h; exact ⟨by omega, this.2⟩
    · omega⟩
  | j + 1, k, rows, v2, o3, o4, o5, o6, e, hv, hr, hl => by
    have sz := sizeLine_eq
    have p7 : 7 ^ (k + 1) ≤ 7 ^ 8 := Nat.pow_le_pow_right (by decide) (by omega)
    have p8 : (7 : Nat) ^ 8 = 5764801 := by decide
    have ps : (7 : Nat) ^ (k + 1) = 7 ^ k * 7 := Nat.pow_succ 7 k
    refine ⟨True.intro, _, rfl, ?_⟩
    refine (?_ : wSeq _ _ _ _)
    refine seq_k fun K1 hn hr1 hb hct he => ?_
    simp only [List.set_cons_zero, List.set_cons_succ]
    walk_at "lv"
    refine ⟨Nat.zero_le _, hn _ (seq_k fun K2 hn2 hr2 hb2 hct2 he2 => ?_)⟩
    have both : loopW (.n 5) bC1 yesK K2 (rows.map rowD) [some (.fz (levD lv)), some (.fz (highD H)), some (.fz (.lst (rows.map rowD))), some (.fz (.int k)), some (.ow (.lst ([] : List D))), o5, o6] := by
      refine lp_c1 K2 lv H w k w1 w8 ok hH (by omega) _ rows [] o5 o6 hr (fun _ z => (nomatch z)) (by rw [List.length_nil]; omega) fun acc o5 o6 h1 h2 => hn2 _ ?_
      rw [List.length_nil] at h2
      walk_at "lv"
      rw [show (k : Int) + 1 = ((k + 1 : Nat) : Int) by omega]
      exact lp_cube K lv H w w1 w8 ok hH q j (k + 1) acc _ _ _ _ _ (by omega) (.inl rfl) h1 (by omega)
    rcases hv with rfl | ⟨rfl, _⟩
    · walk_at "lv"
      exact both
    · walk_at "lv"
      exact both
theorem kp__law_cube : Keeps S__law_cube [] 2 7 (w__law_cube S__law_values) where
  fit := fun args Q E ⟨_, _, _, a, _⟩ => a ▸ fit2
  run := fun args Q E ⟨lv, H, w, e, w1, w8, ok, hH, q⟩ => by
    subst e
    unfold w__law_cube
    have sz := sizeLine_eq
    refine seq_k fun K1 hn hr1 hb hct he => ?_
    walk_at "lv"
    refine ⟨by omega, by omega, hn _ (seq_k fun K2 hn2 hr2 hb2 hct2 he2 => ?_)⟩
    refine (?_ : wFor (.n 3) (wRng1 (wCons (wBlt gLen (wCons (wVar 0) wNil)) wNil)) bCube _ _)
    walk_at "lv"
    refine ⟨by rw [List.length_map, ok.len]; unfold okR; omega, ?_⟩
    rw [List.length_map, ok.len, Int.toNat_natCast]
    refine lp_cube K2 lv H w w1 w8 ok hH (fun rows v2 o3 o4 o5 o6 hv h => hn2 _ ?_) w 0 [[]] (.ow (.lst [.tup []])) none none none none (by omega) (.inr ⟨rfl, rfl⟩) (fun r h => by rw [List.mem_singleton.mp h]; exact ⟨rfl, fun _ z => (nomatch z)⟩) (by simp)
    subst hv
    walk_at "lv"
    exact q rows h
end LV


set_option Elab.async false
set_option linter.all false
set_option maxRecDepth 100000
set_option maxHeartbeats 400000
namespace LV
open PySem PySem.Spec L2
def setsA : High → List (List Int) → List (List (Option Int))
  | x :: h, l :: lv => (x :: l.map fun e => some (e - 1)) :: setsA h lv
  | _, _ => []
theorem setsA_in : ∀ {h : High} {lv : List (List Int)}, h.length = lv.length → InA (setsA h lv) h
  | [], [], _ => True.intro
  | [], _ :: _, e => nomatch e
  | _ :: _, [], e => nomatch e
  | x :: h, l :: lv, e => ⟨List.mem_cons_self, setsA_in (Nat.succ.inj e)⟩
theorem setsA_row : ∀ {h : High} {lv : List (List Int)} {r : List Int}, RowL lv r → RowA (setsA h lv) r
  | [], lv, r, _ => fun i A hA => by simp [setsA] at hA
  | x :: h, [], r, _ => fun i A hA => by simp [setsA] at hA
  | x :: h, l :: lv, [], hr => hr.elim
  | x :: h, l :: lv, y :: r, hr => fun i A hA hp => by
    cases i with
    | zero =>
      have hA : some (x :: l.map fun e => some (e - 1)) = some A := hA
      cases hA
      have hp : y > 0 := hp
      show some (y - 1) ∈ _
      rcases hr.1 with e | e
      · omega
      · exact List.mem_cons_of_mem _ (List.mem_map.mpr ⟨y, e, rfl⟩)
    | succ i => exact setsA_row hr.2 i A hA hp
theorem prodN_sets {n : Nat} : ∀ {h : High} {lv : List (List Int)}, h.length = lv.length → (∀ l ∈ lv, l.length = n) → prodN (setsA h lv) = (n + 1) ^ lv.length
  | [], [], _, _ => rfl
  | [], _ :: _, e, _ => nomatch e
  | _ :: _, [], e, _ => nomatch e
  | x :: h, l :: lv, e, hl => by
    have ih := prodN_sets (n := n) (Nat.succ.inj e) fun k hk => hl k (List.mem_cons_of_mem _ hk)
    show ((l.map fun e => some (e - 1)).length + 1) * prodN (setsA h lv) = _
    rw [List.length_map, hl l List.mem_cons_self, ih, List.length_cons, Nat.pow_succ, Nat.mul_comm]
theorem many_pow {w : Nat} (w1 : 1 ≤ w) (w8 : w ≤ 8) : (manyL w + 1) ^ w ≤ 1000 := by
  rcases (by omega : w = 1 ∨ w = 2 ∨ w = 3 ∨ w = 4 ∨ w = 5 ∨ w = 6 ∨ w = 7 ∨ w = 8) with rfl | rfl | rfl | rfl | rfl | rfl | rfl | rfl <;> decide
/-- what a script draws -/
structure Case (w : Nat) (lv : List (List Int)) (H : High) (R : List (List Int)) : Prop where
  w1 : 1 ≤ w
  w8 : w ≤ 8
  ok : LevOk w lv
  hH : HighOk w (10 ^ 30) H
  hR : ∀ r ∈ R, RowL lv r
  few : R.length < 32
section
variable {w : Nat} {lv : List (List Int)} {H : High} {R : List (List Int)}
theorem Case.row (C : Case w lv H R) : ∀ r ∈ R, RowOk w (10 ^ 30) r := fun r hr => ⟨(C.hR r hr).len.trans C.ok.len, (C.hR r hr).bd C.ok.bd⟩
theorem Case.lens (C : Case w lv H R) : ∀ r ∈ R, r.length = w := fun r hr => (C.row r hr).len
theorem find_none {B : Int} (w1 : 1 ≤ w) (w8 : w ≤ 8) : ∀ {R : List (List Int)}, (∀ r ∈ R, RowOk w B r) → (R.map rowD).find? (fun v => !isRowD v (.int w)) = none := fun {R} h => by
  rw [List.find?_eq_none]
  intro v hv
  obtain ⟨r, hr, rfl⟩ := List.mem_map.mp hv
  rw [row_ok (h r hr).len w1 w8 (fun x hx => ((h r hr).bd x hx).1) (.inr rfl)]
  simp
theorem hout_call (C : Case w lv H R) {args : List Val} {Q : Rv → List Val → Prop} {E : Xn → List Val → Prop} {l : List D} (el : l = R.map rowD) (ea : args = [.fz (highD H), .fz (.lst l)]) (q : ∀ K, Outs w H R K → K.length ≤ 1000 → Q (.ow (.lst (K.map highD))) args) : S_highs_outside args Q E := by
  subst el
  have lH := C.hH.len
  have ih : isHighD (highD H) .non = true := high_ok lH C.w1 C.w8 C.hH.nn (.inl rfl)
  have lenH : lenD (highD H) = (w : Int) := by show ((H.map entD).length : Int) = w; rw [List.length_map, lH]
  have fn := find_none C.w1 C.w8 C.row
  refine ⟨highD H, R.map rowD, ea, plainL_ents H, plainL_rows R, fun z => ?_, fun _ v z => ?_, fun _ _ => ?_⟩
  · rw [ih] at z; cases z
  · rw [lenH, fn] at z; cases z
  · refine ⟨H, R, setsA H lv, rfl, rfl, ⟨by have := C.few; omega, w, 10 ^ 30, C.w1, by decide, fun r hr => ⟨(C.row r hr).len, (C.row r hr).bd⟩⟩, fun r hr => ⟨by rw [lH]; exact (C.row r hr).len, fun x hx => ((C.row r hr).bd x hx).1⟩, C.hH.nn, setsA_in (lH.trans C.ok.len.symm), fun r hr => setsA_row (C.hR r hr), ?_, fun K o kl => q K (lH ▸ o) kl⟩
    rw [prodN_sets (lH.trans C.ok.len.symm) C.ok.many, C.ok.len]
    exact many_pow C.w1 C.w8
end
/-! ### _law_shaped -/
def S__law_shaped : FSpec := fun args Q _ => ∃ (K : List High) (w : Nat) (lv : List (List Int)) (H : High) (R : List (List Int)), args = [.fz (.lst (K.map highD)), .fz (highD H), .fz (.lst (R.map rowD))] ∧ Case w lv H R ∧ Outs w H R K ∧ K.length ≤ 1000 ∧ Q (.fz (.bl true)) args
theorem mS__law_shaped : MonoF S__law_shaped := ⟨fun h _ ⟨o, a, b, c, d, p1, p2, p3, p4, q⟩ => ⟨o, a, b, c, d, p1, p2, p3, p4, h _ _ q⟩⟩
def bOrder : SW := (wIf (wB (wOp2 gGeK (wCall S__law_key (wCons (wFrz (wOp2 gIx (wVar 0) (wOp2 gSub (wVar 4) (wC (.int 1))))) wNil)) (wCall S__law_key (wCons (wFrz (wOp2 gIx (wVar 0) (wVar 4))) wNil))))
  (wRet [] (wC (.bl false)))
  wSkip)
theorem lp_order (K : Ks) (b c d : Option Val) (L : List High) (w : Nat) (hw : ∀ h ∈ L, h.length = w) (w8 : w ≤ 1000) (hL : L.Pairwise fun a b => ltH a b = true) (hK : ∀ e, K.nx [some (.fz (.lst (L.map highD))), b, c, d, e]) : ∀ (j i : Nat) (e : Option Val), 1 ≤ i → i + j = L.length →
    loopW (.n 4) bOrder yesK K (rngD (i : Int) j) [some (.fz (.lst (L.map highD))), b, c, d, e]
  | 0, i, e, _, _ => ⟨True.intro, hK e⟩
  | j + 1, i, e, hi, hl => by
    have g1 : L2.atI (L.map highD) ((i : Int) - 1) = some (highD L[i - 1]) := by
      rw [show (i : Int) - 1 = ((i - 1 : Nat) : Int) by omega]
      exact at_nat (by rw [List.getElem?_map, List.getElem?_eq_getElem (by omega)]; rfl)
    have g2 : L2.atI (L.map highD) (i : Int) = some (highD L[i]) := at_nat (by rw [List.getElem?_map, List.getElem?_eq_getElem (by omega)]; rfl)
    have l1 := hw _ (List.getElem_mem (l := L) (n := i - 1) (by omega))
    have l2 := hw _ (List.getElem_mem (l := L) (n := i) (by omega))
    have lt := List.pairwise_iff_getElem.mp hL (i - 1) i (by omega) (by omega) (by omega)
    refine ⟨True.intro, _, rfl, ?_⟩
    refine (?_ : wIf _ _ _ _ _)
    refine if_k fun G g0 _ => ?_
    simp_all! only [g1, g2]
    refine ⟨L[i - 1], rfl, by omega, ?_⟩
    simp_all! only [g1, g2]
    refine ⟨L[i], rfl, by omega, ?_⟩
    walk_at "lv"
    refine gGeK_keys (l1.trans l2.symm) ?_
    walk_at "lv"
    rw [lt]
    refine g0 _ ?_
    refine (show loopW (.n 4) bOrder yesK K (rngD ((i : Int) + 1) j) _ from ?_)
    rw [show (i : Int) + 1 = ((i + 1 : Nat) : Int) by omega]
    exact lp_order K b c d L w hw w8 hL hK j (i + 1) _ (by omega) (by omega)
theorem kp__law_shaped : Keeps S__law_shaped [] 3 5 (w__law_shaped S__law_is_high S__law_key S__law_good) where
  fit := fun args Q E ⟨_, _, _, _, _, a, _⟩ => a ▸ fit3
  run := fun args Q E ⟨K, w, lv, H, R, e, C, o, kl, q⟩ => by
    subst e
    unfold w__law_shaped
    have sz := sizeLine_eq
    have lH := C.hH.len
    have w8 := C.w8
    have few := C.few
    refine seq_k fun K1 hn hr1 hb hct he => ?_
    refine if_or fun G g0 _ => ?_
    have ty : (D.lst (K.map highD)).ty = some .lst := rfl
    simp_all! only [ty]
    simp only [isaT, decide_true, Bool.not_true]
    refine g0 _ (if_k fun G g0 _ => ?_)
    unfold wLc
    walk_at "lv"
    simp only [wipeE, List.set_cons_zero, List.set_cons_succ]
    refine cw_map (fun _ => .bl true) True.intro _ (fun d hd => ?_) (by rw [List.length_map]; omega) ⟨List.replicate K.length true, ?_, ?_⟩
    · obtain ⟨k, hk, rfl⟩ := List.mem_map.mp hd
      refine ⟨_, rfl, rfl, fun G g => ?_⟩
      walk_at "lv"
      refine ⟨k, w, by rw [List.length_map, lH], o.len k hk, by omega, o.nn k hk, ?_⟩
      walk_at "lv"
      exact g
    · rw [List.map_map]
      simp [Function.comp_def, List.map_const']
    · rw [show (List.replicate K.length true).all id = true by simp]
      walk_at "lv"
      refine g0 _ (hn _ (seq_k fun K2 hn2 hr2 hb2 hct2 he2 => ?_))
      have fin : ∀ e : Option Val, K2.nx [some (.fz (.lst (K.map highD))), some (.fz (highD H)), some (.fz (.lst (R.map rowD))), none, e] := fun e => by
        refine hn2 _ ?_
        unfold wLc
        walk_at "lv"
        simp only [wipeE, List.set_cons_zero, List.set_cons_succ]
        refine cw_map (fun _ => .bl true) True.intro _ (fun d hd => ?_) (by rw [List.length_map]; omega) ⟨List.replicate K.length true, ?_, ?_⟩
        · obtain ⟨k, hk, rfl⟩ := List.mem_map.mp hd
          refine ⟨_, rfl, rfl, fun G g => ?_⟩
          walk_at "lv"
          refine ⟨k, H, K, R, w, rfl, o, hk, lH, C.lens, w8, by omega, ?_⟩
          walk_at "lv"
          exact g
        · rw [List.map_map]
          simp [Function.comp_def, List.map_const']
        · rw [show (List.replicate K.length true).all id = true by simp]
          exact q
      refine (?_ : wFor (.n 4) (wRng2 (wCons (wC (.int 1)) (wCons (wBlt gLen (wCons (wVar 0) wNil)) wNil))) bOrder _ _)
      walk_at "lv"
      rw [List.length_map]
      by_cases h0 : K.length = 0
      · rw [h0]
        exact ⟨by unfold okR; omega, by unfold okR; omega, True.intro, fin _⟩
      · refine ⟨by unfold okR; omega, by unfold okR; omega, ?_⟩
        rw [show (((K.length : Nat) : Int) - 1).toNat = K.length - 1 by omega]
        exact lp_order K2 _ _ _ K w o.len (by omega) o.srt fin (K.length - 1) 1 none (Nat.le_refl _) (by omega)
end LV


set_option Elab.async false
set_option linter.all false
set_option maxRecDepth 100000
set_option maxHeartbeats 400000
namespace LV
open PySem PySem.Spec L2
def S__law_again : FSpec := fun args Q _ => ∃ (K : List High) (w : Nat) (lv : List (List Int)) (H : High) (R : List (List Int)), args = [.fz (highD H), .fz (.lst (R.map rowD)), .fz (.lst (K.map highD))] ∧ Case w lv H R ∧ R.length ≤ 6 ∧ Outs w H R K ∧ K.length ≤ 1000 ∧ Q (.fz (.bl true)) args
theorem mS__law_again : MonoF S__law_again := ⟨fun h _ ⟨o, a, b, c, d, p1, p2, p3, p4, p5, q⟩ => ⟨o, a, b, c, d, p1, p2, p3, p4, p5, h _ _ q⟩⟩
theorem kp__law_again : Keeps S__law_again [] 3 6 (w__law_again S_highs_outside) where
  fit := fun args Q E ⟨_, _, _, _, _, a, _⟩ => a ▸ fit3
  run := fun args Q E ⟨K, w, lv, H, R, e, C, r6, o, kl, q⟩ => by
    subst e
    unfold w__law_again
    have sz := sizeLine_eq
    have lH := C.hH.len
    refine seq_k fun K1 hn1 hr1 hb1 hct1 he1 => ?_
    walk_at "lv"
    refine hn1 _ (seq_k fun K2 hn2 hr2 hb2 hct2 he2 => ?_)
    walk_at "lv"
    refine hn2 _ (seq_k fun K3 hn3 hr3 hb3 hct3 he3 => ?_)
    walk_at "lv"
    refine hout_call C rfl rfl fun L oL lL => ?_
    have eL : L = K := oL.uniq o fun _ _ => Iff.rfl
    subst eL
    walk_at "lv"
    refine hn3 _ (seq_k fun K4 hn4 hr4 hb4 hct4 he4 => ?_)
    walk_at "lv"
    refine ⟨by rw [List.length_map]; omega, hn4 _ (seq_k fun K5 hn5 hr5 hb5 hct5 he5 => ?_)⟩
    refine if_or fun G g0 _ => ?_
    simp_all! only [okE_rows, eqv_rows, decide_true]
    refine g0 _ (if_or fun G g0 _ => ?_)
    walk_at "lv"
    refine hout_call C rfl rfl fun L2 oL2 lL2 => ?_
    have eL2 : L2 = L := oL2.uniq oL fun _ _ => Iff.rfl
    subst eL2
    simp_all! only [okE_highs, eqv_highs, decide_true]
    refine g0 _ (if_k fun G g0 _ => ?_)
    walk_at "lv"
    refine ⟨Nat.zero_le _, hout_call (R := []) ⟨C.w1, C.w8, C.ok, C.hH, fun _ z => (nomatch z), by decide⟩ rfl rfl fun L0 oL0 lL0 => ?_⟩
    have e0 : L0 = [H] := oL0.uniq (Outs.nil lH C.hH.nn) fun _ _ => Iff.rfl
    subst e0
    walk_at "lv"
    rw [show D.lst [highD H] = D.lst ([H].map highD) from rfl]
    refine ⟨by omega, okE_highs _, okE_highs _, ?_⟩
    rw [eqv_highs, decide_eq_true rfl]
    refine g0 _ (hn5 _ ?_)
    have e2 : (R.map rowD).reverse ++ R.map rowD = (R.reverse ++ R).map rowD := by rw [rev_map, List.map_append]
    have mem : ∀ r, r ∈ R.reverse ++ R ↔ r ∈ R := fun r => by
      rw [List.mem_append, List.mem_reverse]
      exact ⟨fun z => z.elim id id, .inl⟩
    simp_all! only [wRevS, e2]
    refine ⟨by rw [List.length_reverse, List.length_map]; omega, hout_call (R := R.reverse ++ R) ⟨C.w1, C.w8, C.ok, C.hH, fun r hr => C.hR r ((mem r).mp hr), by rw [List.length_append, List.length_reverse]; omega⟩ rfl rfl fun L3 oL3 lL3 => ?_⟩
    have e3 : L3 = L2 := oL3.uniq oL2 fun x _ => ⟨fun h r hr => h r ((mem r).mpr hr), fun h r hr => h r ((mem r).mp hr)⟩
    subst e3
    simp_all! only [okE_highs, eqv_highs, decide_true]
    exact q
/-! ### _law_refused -/
def S__law_refused : FSpec := fun args Q _ => ∃ (hv v : D) (rows : List D), args = [.fz hv, .fz (.lst rows)] ∧ hv.plain = true ∧ plainL rows = true ∧ ((isHighD hv .non = false ∧ v = hv) ∨ (isHighD hv .non = true ∧ rows.find? (fun v => !isRowD v (.int (lenD hv))) = some v)) ∧ v.Shows ∧ Q (.ow (.lst [.str "refused", .str v.pd.shown])) args
theorem mS__law_refused : MonoF S__law_refused := ⟨fun h _ ⟨o, a, b, c, d, p1, p2, p3, q⟩ => ⟨o, a, b, c, d, p1, p2, p3, h _ _ q⟩⟩
theorem kp__law_refused : Keeps S__law_refused [] 2 3 (w__law_refused S_highs_outside) where
  fit := fun args Q E ⟨_, _, _, a, _⟩ => a ▸ fit2
  run := fun args Q E ⟨hv, v, rows, e, ph, pr, h, hs, q⟩ => by
    subst e
    unfold w__law_refused
    have sz := sizeLine_eq
    refine seq_k fun K2 hn2 hr2 hb2 hct2 he2 => ?_
    refine try_k fun K3 _ _ _ _ hex _ => ?_
    have hk : K3.ex (IR v) [some (.fz hv), some (.fz (.lst rows)), none] := by
      refine hex _ _ rfl rfl fun a => ?_
      unfold wExA
      simp_all! only [KsSu]
      refine ⟨v, rfl, ?_⟩
      simp only [gRepr]
      walk_at "lv"
      refine ⟨hs, by omega, rfl, ?_⟩
      rw [hr2]
      walk_at "lv"
      exact q
    clear hex
    walk_at "lv"
    refine ⟨hv, rows, rfl, ph, pr, fun z => ?_, fun z u hu => ?_, fun z z2 => ?_⟩
    · rcases h with ⟨_, rfl⟩ | ⟨h1, _⟩
      · exact ⟨rfl, hk⟩
      · rw [h1] at z; cases z
    · rcases h with ⟨h1, _⟩ | ⟨_, h2⟩
      · rw [h1] at z; cases z
      · rw [h2] at hu; cases hu; exact ⟨rfl, hk⟩
    · rcases h with ⟨h1, _⟩ | ⟨_, h2⟩
      · rw [h1] at z; cases z
      · rw [h2] at z2; cases z2
end LV


set_option Elab.async false
set_option linter.all false
set_option maxRecDepth 100000
set_option maxHeartbeats 400000
set_option exponentiation.threshold 10000
namespace LV
open PySem PySem.Spec L2
open PySem.W (dataLt dataLe AllAlike Sortable alike alikeAll dataLt_cons dataLt_tuple dataLt_ii keyToksAll)
open PyProof.Rows (itemOrd lex_irrefl)
/-! ### odd high rows -/
def oddMH (r : High) (p : Nat) (x : D) : D := .tup ((r.map entD).take p ++ [x] ++ (r.map entD).drop (p + 1))
theorem oddMH_bad {r : High} {p : Nat} {x v : D} (h : entOkH x = false) : isHighD (oddMH r p x) v = false := by
  unfold oddMH
  simp only [isHighD]
  rw [List.all_append, List.all_append]
  have : [x].all entOkH = false := by simp [h]
  rw [this]
  simp
theorem oddMH_tidy {r : High} {w p : Nat} {x : D} (hr : HighOk w (10 ^ 31) r) (w8 : w ≤ 8) (hx : x.tidy = true) (hn : x.nodes ≤ 5) : (oddMH r p x).tidy = true ∧ (oddMH r p x).nodes ≤ 30 := by
  obtain ⟨hl, hb⟩ := hr
  have t1 : tidyL ((r.map entD).take p) = true := by rw [← List.map_take]; exact tidyL_ents fun y hy => hb y (List.mem_of_mem_take hy)
  have t2 : tidyL ((r.map entD).drop (p + 1)) = true := by rw [← List.map_drop]; exact tidyL_ents fun y hy => hb y (List.mem_of_mem_drop hy)
  constructor
  · refine tidyL_append (tidyL_append t1 ?_) t2
    show (x.tidy && true) = true
    rw [hx]; rfl
  · show nodesL ((r.map entD).take p ++ [x] ++ (r.map entD).drop (p + 1)) + 1 ≤ 30
    rw [nodesL_append, nodesL_append, ← List.map_take, ← List.map_drop, nodesL_ents, nodesL_ents, List.length_take, List.length_drop]
    show min p r.length + (x.nodes + 0) + (r.length - (p + 1)) + 1 ≤ 30
    omega
theorem tidyL_rows : ∀ {l : List (List Int)}, (∀ r ∈ l, ∀ x ∈ r, 0 ≤ x ∧ x < 10 ^ 31) → tidyL (l.map rowD) = true
  | [], _ => rfl
  | r :: l, h => by
    show (tidyL (r.map D.int) && tidyL (l.map rowD)) = true
    rw [tidyL_ints (h r List.mem_cons_self), tidyL_rows fun x hx => h x (List.mem_cons_of_mem _ hx)]; rfl
end LV


set_option Elab.async false
set_option linter.all false
set_option maxRecDepth 100000
set_option maxHeartbeats 400000
namespace LV
open PySem PySem.Spec L2
theorem find_odd {w : Nat} {B : Int} {R S : List (List Int)} {v : D} {l : List D} (w1 : 1 ≤ w) (w8 : w ≤ 8) (h : ∀ r ∈ R, RowOk w B r) (hv : isRowD v (.int w) = false) : (R.map rowD ++ v :: l).find? (fun v => !isRowD v (.int w)) = some v := by
  rw [List.find?_append, find_none w1 w8 h, Option.none_or, List.find?_cons_of_pos (by rw [hv]; rfl)]
abbrev wPut : EW := (wOp2 gAdd (wOp2 gAdd (wOp2 gAdd (wSl (wVar 2) wNoP (wPt (wVar 6))) (wLst (wCons (wVar 8) wNil))) (wSl (wVar 2) (wPt (wVar 6)) wNoP)) (wLst (wCons (wC .non) wNil)))
theorem ev_put {o b c3 c4 c5 c7 c9 : Option Val} {rs : List D} {a : Nat} {v : D} {v8 : Val} {Q : Rv → En → Prop} {E : XW} (h8 : (v8 = .fz v) ∨ ∃ xs, v8 = .ow (.lst xs) ∧ v = .lst xs) (hl : rs.length ≤ 1000)
    (q : Q (.ow (.lst (rs.take a ++ [v] ++ rs.drop a ++ [D.non]))) [o, b, some (.fz (.lst rs)), c3, c4, c5, some (.fz (.int a)), c7, some (.fz v), c9]) :
    wPut [o, b, some (.fz (.lst rs)), c3, c4, c5, some (.fz (.int a)), c7, some v8, c9] Q E := by
  have sz := sizeLine_eq
  have tl := List.length_take_le a rs
  have dl : (rs.drop a).length ≤ rs.length := by rw [List.length_drop]; omega
  refine op_k fun F1 h1 => ?_
  refine op_k (Q := fun r e => F1 r.frz e) fun F2 h2 => ?_
  refine op_k (Q := fun r e => F2 r.frz e) fun F3 h3 => ?_
  simp_all! only [cut_take]
  refine h3 _ _ ?_
  have go : F2 (.fz (.lst (rs.take a ++ [v]))) [o, b, some (.fz (.lst rs)), c3, c4, c5, some (.fz (.int a)), c7, some (.fz v), c9] := by
    refine h2 _ _ ?_
    simp_all! only [cut_drop]
    refine ⟨by simp; omega, h1 _ _ ?_⟩
    walk_at "lv"
    exact ⟨by omega, by simp; omega, q⟩
  rcases h8 with rfl | ⟨xs, rfl, rfl⟩
  · walk_at "lv"
    exact ⟨by omega, by simp; omega, go⟩
  · walk_at "lv"
    exact ⟨by omega, by simp; omega, go⟩
def bRef1 : SW := (wSeq (wSet 8 (wCall S__law_odd (wCons (wFrz (wVar 4)) (wCons (wFrz (wVar 5)) (wCons (wFrz (wVar 7)) wNil)))))
  (wIf (wB (wOp2 gNeS (wCall S__law_refused (wCons (wFrz (wVar 1)) (wCons (wFrz (wOp2 gAdd (wOp2 gAdd (wOp2 gAdd (wSl (wVar 2) wNoP (wPt (wVar 6))) (wLst (wCons (wVar 8) wNil))) (wSl (wVar 2) (wPt (wVar 6)) wNoP)) (wLst (wCons (wC .non) wNil)))) wNil))) (wLst (wCons (wC (.str "refused")) (wCons (wBlt gRepr (wCons (wVar 8) wNil)) wNil)))))
  (wRet [0] (wC (.bl false)))
  wSkip))
theorem lp_ref1 (K : Ks) (o : Val) {w : Nat} {lv : List (List Int)} {H : High} {R : List (List Int)} (C : Case w lv H R) {r : List Int} (hr : RowOk w (10 ^ 31) r) {p a : Nat} (hp : p < w) (ha : a ≤ R.length) (o3 o9 : Option Val)
    (hK : ∀ o7 o8, K.nx [some o, some (.fz (highD H)), some (.fz (.lst (R.map rowD))), o3, some (.fz (rowD r)), some (.fz (.int p)), some (.fz (.int a)), o7, o8, o9]) : ∀ (j i : Nat) (o7 o8 : Option Val), i + j = 13 →
    loopW (.n 7) bRef1 yesK K (rngD (i : Int) j) [some o, some (.fz (highD H)), some (.fz (.lst (R.map rowD))), o3, some (.fz (rowD r)), some (.fz (.int p)), some (.fz (.int a)), o7, o8, o9]
  | 0, i, o7, o8, _ => ⟨True.intro, hK _ _⟩
  | j + 1, i, o7, o8, e => by
    have sz := sizeLine_eq
    have hl := hr.len
    have w8 := C.w8
    have w1 := C.w1
    have few := C.few
    have lH := C.hH.len
    obtain ⟨f1, _⟩ := odd_row (p := p) hr w1 w8 hp (show i < 13 by omega)
    have ti := odd_tidy (p := p) hr w8 (show i < 13 by omega)
    have next : ∀ o7 o8, loopW (.n 7) bRef1 yesK K (rngD ((i : Int) + 1) j) [some o, some (.fz (highD H)), some (.fz (.lst (R.map rowD))), o3, some (.fz (rowD r)), some (.fz (.int p)), some (.fz (.int a)), o7, o8, o9] := fun o7 o8 => by
      rw [show (i : Int) + 1 = ((i + 1 : Nat) : Int) by omega]
      exact lp_ref1 K o C hr hp ha o3 o9 hK j (i + 1) o7 o8 (by omega)
    refine ⟨True.intro, _, rfl, ?_⟩
    refine (?_ : wSeq _ _ _ _)
    refine seq_k fun K1 hn hr1 hb hct he => ?_
    simp only [List.set_cons_zero, List.set_cons_succ]
    walk_at "lv"
    refine ⟨r, p, i, rfl, by omega, by omega, by omega, ?_⟩
    walk_at "lv"
    have ih : isHighD (highD H) .non = true := high_ok lH w1 w8 C.hH.nn (.inl rfl)
    have lenH : lenD (highD H) = (w : Int) := by show ((H.map entD).length : Int) = w; rw [List.length_map, lH]
    have both : ∀ v8 : Val, ((v8 = .fz (oddD r p i)) ∨ ∃ xs, v8 = .ow (.lst xs) ∧ oddD r p i = .lst xs) → K1.nx [some o, some (.fz (highD H)), some (.fz (.lst (R.map rowD))), o3, some (.fz (rowD r)), some (.fz (.int p)), some (.fz (.int a)), some (.fz (.int i)), some v8, o9] := fun v8 h8 => by
      refine hn _ (if_k fun G g0 _ => ?_)
      have pv := tidy_plain _ ti.1
      have sv := shows_t ti
      generalize oddD r p i = v at *
      have rowsP : ∀ l : List (List Int), plainL (l.map rowD) = true := plainL_rows
      have pl : plainL ((R.map rowD).take a ++ [v] ++ (R.map rowD).drop a ++ [D.non]) = true := by
        refine tidyL_plain _ (tidyL_append (tidyL_append (tidyL_append ?_ ?_) ?_) rfl)
        · rw [← List.map_take]; exact tidyL_rows fun s hs x hx => by have := (C.row s (List.mem_of_mem_take hs)).bd x hx; exact ⟨this.1, by have e : (10 : Int) ^ 30 ≤ 10 ^ 31 := (by decide); omega⟩
        · show (v.tidy && true) = true
          rw [ti.1]; rfl
        · rw [← List.map_drop]; exact tidyL_rows fun s hs x hx => by have := (C.row s (List.mem_of_mem_drop hs)).bd x hx; exact ⟨this.1, by have e : (10 : Int) ^ 30 ≤ 10 ^ 31 := (by decide); omega⟩
      have fo : ((R.map rowD).take a ++ [v] ++ (R.map rowD).drop a ++ [D.non]).find? (fun v => !isRowD v (.int (lenD (highD H)))) = some v := by
        rw [lenH, ← List.map_take, List.append_assoc, List.append_assoc]
        exact find_odd (S := []) w1 w8 (fun s hs => C.row s (List.mem_of_mem_take hs)) f1
      have call : ∀ {args : List Val} {Q : Rv → List Val → Prop} {E : Xn → List Val → Prop}, args = [.fz (highD H), .fz (.lst ((R.map rowD).take a ++ [v] ++ (R.map rowD).drop a ++ [D.non]))] → Q (.ow (.lst [.str "refused", .str v.pd.shown])) args → S__law_refused args Q E := fun ea q => ⟨highD H, v, _, ea, plainL_ents H, pl, .inr ⟨ih, fo⟩, sv, q⟩
      refine (?_ : wOp2 gNeS _ _ _ _ _)
      refine op_k fun F hF => ?_
      refine (?_ : wFz (wCall S__law_refused (wCons (wFrz (wVar 1)) (wCons (wFrz wPut) wNil))) _ _ _)
      simp only [wFz, wCall, wCons, wFrz, wVar, List.getElem?_cons_zero, List.getElem?_cons_succ]
      refine ⟨_, _, rfl, ?_⟩
      refine ev_put (rs := R.map rowD) h8 (by rw [List.length_map]; omega) ?_
      walk_at "lv"
      refine call rfl ?_
      walk_at "lv"
      refine hF _ _ ?_
      simp_all! only [gRepr_1]
      exact ⟨sv, by omega, gNeS_same ⟨false, rfl, g0 _ (next _ _)⟩⟩
    by_cases h0 : i = 0
    · subst h0
      exact ⟨fun _ z => (nomatch z), both _ (.inr ⟨_, rfl, rfl⟩)⟩
    · have e : oddR r p i = .fz (oddD r p i) := by
        cases i with
        | zero => exact absurd rfl h0
        | succ i => rfl
      rw [e]
      exact ⟨fun _ z => (nomatch z), both _ (.inl rfl)⟩
end LV


set_option Elab.async false
set_option linter.all false
set_option maxRecDepth 100000
set_option maxHeartbeats 400000
namespace LV
open PySem PySem.Spec L2
def bRef2 : SW := (wIf (wtOr (wB (wOp2 gNeS (wCall S__law_refused (wCons (wFrz (wVar 8)) (wCons (wFrz (wLst (wCons (wC .non) wNil))) wNil))) (wLst (wCons (wC (.str "refused")) (wCons (wBlt gRepr (wCons (wVar 8) wNil)) wNil))))) (wB (wOp2 gNeS (wCall S__law_refused (wCons (wFrz (wVar 8)) (wCons (wFrz (wVar 2)) wNil))) (wLst (wCons (wC (.str "refused")) (wCons (wBlt gRepr (wCons (wVar 8) wNil)) wNil))))))
  (wRet [0] (wC (.bl false)))
  wSkip)
theorem lp_ref2 (K : Ks) (a b : Option Val) (rs : List D) (pr : plainL rs = true) (o3 o4 o5 o6 o7 o9 : Option Val)
    (hK : ∀ o8, K.nx [a, b, some (.fz (.lst rs)), o3, o4, o5, o6, o7, o8, o9]) (ds : List D) (h : ∀ d ∈ ds, d.plain = true ∧ isHighD d .non = false ∧ d.Shows) (o8 : Option Val) :
    loopW (.n 8) bRef2 yesK K ds [a, b, some (.fz (.lst rs)), o3, o4, o5, o6, o7, o8, o9] := by
  have sz := sizeLine_eq
  refine lp_each (fun o => [a, b, some (.fz (.lst rs)), o3, o4, o5, o6, o7, o, o9]) (fun _ => True.intro) hK ds (fun d hd o => ?_) o8
  obtain ⟨pd, nd, sd⟩ := h d hd
  refine ⟨_, rfl, fun K' hK' => ?_⟩
  refine (?_ : wIf (wtOr _ _) _ _ _ _)
  refine if_or fun G g0 _ => ?_
  refine (?_ : wOp2 gNeS _ _ _ _ _)
  refine op_k fun F hF => ?_
  walk_at "lv"
  refine ⟨by omega, d, d, [.non], rfl, pd, rfl, .inl ⟨nd, rfl⟩, sd, ?_⟩
  walk_at "lv"
  refine hF _ _ ?_
  simp_all! only [gRepr_1]
  refine ⟨sd, by omega, gNeS_same ⟨false, rfl, g0 _ ?_⟩⟩
  refine if_k fun G g0 _ => ?_
  refine (?_ : wOp2 gNeS _ _ _ _ _)
  refine op_k fun F hF => ?_
  walk_at "lv"
  refine ⟨d, d, rs, rfl, pd, pr, .inl ⟨nd, rfl⟩, sd, ?_⟩
  walk_at "lv"
  refine hF _ _ ?_
  simp_all! only [gRepr_1]
  exact ⟨sd, by omega, gNeS_same ⟨false, rfl, g0 _ (hK' _)⟩⟩
/-- a high row with another entry at a place, as the program cuts it -/
abbrev wMid (x : EW) : EW := (wOp2 gAdd (wOp2 gAdd (wSl (wVar 1) wNoP (wPt (wVar 5))) (wTup (wCons x wNil))) (wSl (wVar 1) (wPt (wOp2 gAdd (wVar 5) (wC (.int 1)))) wNoP))
theorem ev_mid {a b c d e f g i j : Option Val} {H : High} {p : Nat} {x : D} {wx : EW} {Q : Rv → En → Prop} {E : XW} (hx : ∀ env Q E, Q (.fz x) env → wx env Q E) (hl : H.length ≤ 8)
    (q : Q (.fz (oddMH H p x)) [a, some (.fz (highD H)), b, c, d, some (.fz (.int p)), e, f, g, i]) : wMid wx [a, some (.fz (highD H)), b, c, d, some (.fz (.int p)), e, f, g, i] Q E := by
  have sz := sizeLine_eq
  have ep : (p : Int) + 1 = ((p + 1 : Nat) : Int) := by omega
  refine op_k fun F1 h1 => ?_
  refine op_k (Q := fun r e => F1 r.frz e) fun F2 h2 => ?_
  simp_all! only [cut_take]
  refine h2 _ _ ?_
  simp only [wFz, wTup, wCons]
  refine hx _ _ _ ?_
  walk_at "lv"
  refine ⟨by omega, by simp; omega, h1 _ _ ?_⟩
  walk_at "lv"
  rw [ep]
  simp_all! only [cut_drop]
  exact ⟨by simp; omega, q⟩
end LV


set_option Elab.async false
set_option linter.all false
set_option maxRecDepth 100000
set_option maxHeartbeats 400000
set_option exponentiation.threshold 10000
namespace LV
open PySem PySem.Spec L2
theorem bad_non {v : D} (h : ∀ ds, v ≠ .tup ds) : isHighD v .non = false := by
  cases v <;> first | rfl | exact absurd rfl (h _)
/-- an item of a display: what follows it is a name -/
theorem cons_k {w : EW} {wl : AW} {env : En} {Q : List Rv → En → Prop} {E : XW} (h : ∀ F : Rv → En → Prop, (∀ r e, wl e (fun rs e2 => Q (r :: rs) e2) E → F r e) → w env (fun r e => F r.frz e) E) : wCons w wl env Q E :=
  h (fun r e => wl e (fun rs e2 => Q (r :: rs) e2) E) fun _ _ q => q
/-- a display to a name -/
theorem set_lst_k {i : Nat} {wl : AW} {K : Ks} {env : En} (h : ∀ F : List Rv → En → Prop, (∀ rs e, (∃ ds e', frzL e rs = some (ds, e') ∧ ds.length ≤ sizeLine ∧ setR i (.ow (.lst ds)) e' K.nx) → F rs e) → wl env F K.ex) : wSet i (wLst wl) K env :=
  h _ fun _ _ q => q
def wrongs (H : High) (p : Nat) : List D := [oddMH H p (.int (-1)), oddMH H p (.bl false), .lst (H.map entD), .tup [], .tup (List.replicate 9 .non), .non, .int 5, oddMH H p (.str "1")]
theorem wrongs_ok {w : Nat} {H : High} {p : Nat} (hH : HighOk w (10 ^ 31) H) (w8 : w ≤ 8) : ∀ d ∈ wrongs H p, d.plain = true ∧ isHighD d .non = false ∧ d.Shows := by
  have one : ∀ x : D, entOkH x = false → x.tidy = true → x.nodes ≤ 5 → (oddMH H p x).plain = true ∧ isHighD (oddMH H p x) .non = false ∧ (oddMH H p x).Shows := fun x h1 h2 h3 =>
    have t := oddMH_tidy (p := p) hH w8 h2 h3
    ⟨tidy_plain _ t.1, oddMH_bad h1, shows_t t⟩
  have oth : ∀ x : D, x.tidy = true → x.nodes ≤ 30 → isHighD x .non = false → x.plain = true ∧ isHighD x .non = false ∧ x.Shows := fun x h1 h2 h3 => ⟨tidy_plain _ h1, h3, shows_t ⟨h1, h2⟩⟩
  intro d hd
  unfold wrongs at hd
  simp only [List.mem_cons, List.not_mem_nil, or_false] at hd
  rcases hd with rfl | rfl | rfl | rfl | rfl | rfl | rfl | rfl
  · exact one _ rfl (by decide) (by decide)
  · exact one _ rfl (by decide) (by decide)
  · have t := high_tidy hH w8
    exact oth _ t.1 t.2 rfl
  · exact oth _ (by decide) (by decide) rfl
  · exact oth _ (by decide) (by decide) rfl
  · exact oth _ (by decide) (by decide) rfl
  · exact oth _ (by decide) (by decide) rfl
  · exact one _ rfl (by decide) (by decide)
def S__law_refusals : FSpec := fun args Q _ => ∃ (o : O) (m : Int) (w : Nat) (lv : List (List Int)) (H : High) (R : List (List Int)), args = [.ow o, .fz (highD H), .fz (.lst (R.map rowD))] ∧ BagOk o m ∧ m < 900000000 ∧ Case w lv H R ∧ ∀ o', Q (.fz (.bl true)) [.ow o', .fz (highD H), .fz (.lst (R.map rowD))]
theorem mS__law_refusals : MonoF S__law_refusals := ⟨fun h _ ⟨o, m, w, lv, H, R, p1, p2, p3, p4, q⟩ => ⟨o, m, w, lv, H, R, p1, p2, p3, p4, fun x => h _ _ (q x)⟩⟩
theorem kp__law_refusals : Keeps S__law_refusals [0] 3 10 (w__law_refusals S__law_take S__law_odd S__law_refused) where
  fit := fun args Q E ⟨o, m, _, _, _, _, e, _⟩ => e ▸ fitO3
  run := fun args Q E ⟨o, m, w, lv, H, R, e, bg, hm, C, q⟩ => by
    subst e
    unfold w__law_refusals
    have sz := sizeLine_eq
    have hl := C.hH.len
    have w1 := C.w1
    have w8 := C.w8
    have few := C.few
    refine seq_k fun K1 hn1 hr1 hb1 hct1 he1 => ?_
    walk_at "lv"
    rw [List.length_map, hl]
    refine hn1 _ (seq_k fun K2 hn2 hr2 hb2 hct2 he2 => ?_)
    have go : ∀ r : List Int, RowOk w (10 ^ 31) r → K2.nx [some (.ow o), some (.fz (highD H)), some (.fz (.lst (R.map rowD))), some (.fz (.int w)), some (.fz (rowD r)), none, none, none, none, none] := fun r hr => by
      refine hn2 _ (seq_k fun K3 hn3 hr3 hb3 hct3 he3 => ?_)
      simp_all! only [S__law_take]
      refine ⟨m, bg, by omega, by omega, by omega, fun pl o1 p0 p1 bg1 => hn3 _ (seq_k fun K4 hn4 hr4 hb4 hct4 he4 => ?_)⟩
      obtain ⟨p, rfl⟩ := Int.eq_ofNat_of_zero_le p0
      simp_all! only [S__law_take]
      refine ⟨_, bg1, by rw [List.length_map]; omega, by rw [List.length_map]; omega, by omega, fun al o2 a0 a1 bg2 => hn4 _ (seq_k fun K5 hn5 hr5 hb5 hct5 he5 => ?_)⟩
      rw [List.length_map] at a1
      obtain ⟨a, rfl⟩ := Int.eq_ofNat_of_zero_le a0
      refine (?_ : wFor (.n 7) (wRng1 (wCons (wC (.int 13)) wNil)) bRef1 _ _)
      walk_at "lv"
      refine ⟨by unfold okR; omega, ?_⟩
      refine lp_ref1 K5 (.ow o2) C hr (p := p) (a := a) (by omega) (by omega) _ _ (fun o7 o8 => hn5 _ (seq_k fun K6 hn6 hr6 hb6 hct6 he6 => ?_)) 13 0 none none rfl
      have h31 : HighOk w (10 ^ 31) H := C.hH.mono (by decide)
      have l8 : H.length ≤ 8 := by omega
      have hm1 : ∀ env Q E, Q (.fz (.int (-1))) env → (wNeg (wC (.int 1))) env Q E := fun env Q E q => by walk_at "lv"; exact q
      have hf1 : ∀ env Q E, Q (.fz (.bl false)) env → (wC (.bl false)) env Q E := fun env Q E q => by walk_at "lv"; exact q
      have hs1 : ∀ env Q E, Q (.fz (.str "1")) env → (wC (.str "1")) env Q E := fun env Q E q => by walk_at "lv"; exact q
      refine set_lst_k fun F1 f1 => ?_
      refine cons_k fun F2 f2 => ?_
      refine ev_mid (j := none) hm1 l8 (f2 _ _ ?_)
      refine cons_k fun F3 f3 => ?_
      refine ev_mid (j := none) hf1 l8 (f3 _ _ ?_)
      walk_at "lv"
      refine f1 _ _ ?_
      walk_at "lv"
      refine ⟨by omega, hn6 _ (seq_k fun K7 hn7 hr7 hb7 hct7 he7 => ?_)⟩
      refine (?_ : wOp2 gAdd _ _ _ _ _)
      refine op_k fun F4 f4 => ?_
      walk_at "lv"
      refine f4 _ _ ?_
      refine (?_ : wLst _ _ _ _)
      refine (?_ : wCons _ _ _ _ _)
      refine cons_k fun F5 f5 => ?_
      walk_at "lv"
      refine ⟨Nat.zero_le _, f5 _ _ ?_⟩
      refine cons_k fun F6 f6 => ?_
      walk_at "lv"
      refine ⟨by omega, gMulT_one (k := 9) (d := .non) (by decide) (by decide) ?_⟩
      refine f6 _ _ ?_
      refine cons_k fun F7 f7 => ?_
      walk_at "lv"
      refine f7 _ _ ?_
      refine cons_k fun F8 f8 => ?_
      walk_at "lv"
      refine f8 _ _ ?_
      refine cons_k fun F9 f9 => ?_
      refine ev_mid (j := none) hs1 l8 (f9 _ _ ?_)
      walk_at "lv"
      refine ⟨by omega, by omega, ?_⟩
      have fin : K7.nx [some (.ow o2), some (.fz (highD H)), some (.fz (.lst (R.map rowD))), some (.fz (.int w)), some (.fz (rowD r)), some (.fz (.int p)), some (.fz (.int a)), o7, o8, some (.ow (.lst (wrongs H p)))] := by
        refine hn7 _ (seq_k fun K8 hn8 hr8 hb8 hct8 he8 => ?_)
        have wo := wrongs_ok (p := p) h31 w8
        generalize wrongs H p = W at wo ⊢
        refine (?_ : wFor (.n 8) (wIt [0] (wVar 9)) bRef2 _ _)
        walk_at "lv"
        refine lp_ref2 K8 _ _ (R.map rowD) (plainL_rows _) _ _ _ _ _ _ (fun o8 => hn8 _ ?_) W wo o8
        walk_at "lv"
        exact q _
      exact fin
    have mono : ∀ r ∈ R, RowOk w (10 ^ 31) r := fun r hr => ⟨(C.row r hr).len, fun x hx => by have := (C.row r hr).bd x hx; exact ⟨this.1, by have e : (10 : Int) ^ 30 ≤ 10 ^ 31 := (by decide); omega⟩⟩
    walk_at "lv"
    refine ⟨by omega, gMulT_one (k := (w : Int)) (d := .int 1) (by omega) (by omega) ?_⟩
    walk_at "lv"
    refine ⟨by omega, by rw [List.length_map]; omega, ?_⟩
    cases R with
    | nil =>
      walk_at "lv"
      have := go (List.replicate w 1) ⟨by rw [List.length_replicate], fun x hx => by rw [(List.mem_replicate.mp hx).2]; decide⟩
      rw [Int.toNat_natCast]
      rw [show D.tup (List.replicate w (D.int 1)) = rowD (List.replicate w 1) by rw [rowD, List.map_replicate]]
      exact this
    | cons r R =>
      walk_at "lv"
      exact go r (mono r List.mem_cons_self)
end LV


set_option Elab.async false
set_option linter.all false
set_option maxRecDepth 100000
set_option maxHeartbeats 400000
namespace LV
open PySem PySem.Spec L2
abbrev S_law : FSpec := SLaw 63
theorem mS_law : MonoF S_law := .law
theorem lp_each2 {tg : Tg} {body : SW} {keep : KeepE} {K : Ks} (env : Option Val → En) (hk : ∀ o, keep (env o)) (hK : ∀ o, K.nx (env o)) : ∀ ds : List D, (∀ d ∈ ds, ∀ o, ∃ e1, bindT tg d (env o) = some e1 ∧ ∀ K' : Ks, (∀ o, K'.nx (env o)) → body K' e1) → ∀ o, loopW tg body keep K ds (env o)
  | [], _, o => ⟨hk o, hK o⟩
  | d :: ds, h, o =>
    let ⟨e1, b, hb⟩ := h d List.mem_cons_self o
    ⟨hk o, e1, b, hb _ fun o' => lp_each2 env hk hK ds (fun x hx => h x (List.mem_cons_of_mem _ hx)) o'⟩
def bLaw : SW := (wIf (wtNot (wTru (wCall S__law_outside (wCons (wFrz (wVar 6)) (wCons (wFrz (wVar 3)) (wCons (wFrz (wVar 4)) (wCons (wFrz (wVar 7)) wNil)))))))
  (wRet [] (wC (.bl false)))
  wSkip)
/-- a call whose arguments are frozen names -/
def argsV : List Nat → AW
  | [] => wNil
  | i :: is => wCons (wFrz (wVar i)) (argsV is)
theorem argsV_k : ∀ (is : List Nat) (ds : List D) {env : En} {Q : List Rv → En → Prop} {E : XW}, is.map (fun i => env[i]?) = ds.map (fun d => some (some (Val.fz d))) → Q (ds.map .fz) env → argsV is env Q E
  | [], [], _, _, _, _, q => q
  | [], _ :: _, _, _, _, h, _ => nomatch h
  | _ :: _, [], _, _, _, h, _ => nomatch h
  | i :: is, d :: ds, env, Q, E, h, q => by
    rw [List.map_cons, List.map_cons] at h
    injection h with h1 h2
    simp only [argsV, wCons, wFrz, wFz, wVar, h1]
    exact ⟨d, env, rfl, argsV_k is ds h2 q⟩
theorem valL_fz {env : En} : ∀ ds : List D, valL env (ds.map .fz) = some (ds.map Val.fz)
  | [] => rfl
  | d :: ds => by
    rw [List.map_cons, List.map_cons]
    simp only [valL, valOf, valL_fz ds]
theorem slots_fz : ∀ ds : List D, slotsOf (ds.map .fz) = []
  | [] => rfl
  | d :: ds => slots_fz ds
theorem putL_fz {env : En} : ∀ (ds : List D) (as : List Val), putL env (ds.map .fz) as = env
  | [], _ => by unfold putL; rfl
  | d :: ds, [] => rfl
  | d :: ds, a :: as => putL_fz ds as
theorem call_v (is : List Nat) (ds : List D) {S : FSpec} {wl : AW} {env : En} {Q : Rv → En → Prop} {E : XW} (mS : MonoF S) (hw : wl = argsV is) (he : is.map (fun i => env[i]?) = ds.map (fun d => some (some (Val.fz d))))
    (q : S (ds.map .fz) (fun r args' => backOk (ds.map .fz) args' = true ∧ (∀ i, r ≠ .sl i) ∧ Q r env) (fun x args' => backOk (ds.map .fz) args' = true ∧ E x env)) : wCall S wl env Q E := by
  subst hw
  refine argsV_k is ds he ⟨_, valL_fz ds, by rw [slots_fz]; exact List.nodup_nil, mS.mo (fun r as h => ?_) (fun x as h => ?_) q⟩
  · rw [putL_fz]; exact h
  · rw [putL_fz]; exact h
theorem ret_and_k {pn : List Nat} {wa wb : EW} {K : Ks} {env : En} (h : ∀ F : Rv → En → Prop, (∀ e, wRet pn wb K e → F (.fz (.bl true)) e) → wa env F K.ex) : wRet pn (wAnd wa wb) K env :=
  h (fun r e => ∃ b, r = .fz (.bl b) ∧ if b = true then wb e (fun r e => retR pn r e K.rt) K.ex else retR pn (.fz (.bl false)) e K.rt) fun e q => ⟨true, rfl, by rw [if_pos rfl]; exact q⟩
theorem kp_law : Keeps S_law [] 1 8 (w_law S__law_bag S__law_take S__law_levels S__law_high S__law_rows S__law_drawn S_highs_outside S__law_outside S__law_shaped S__law_cube S__law_refusals S__law_again) where
  fit := fun args Q E ⟨ns, a, _⟩ => a ▸ fit1
  run := fun args Q E ⟨ns, a, hn63, hz, q⟩ => by
    subst a
    unfold w_law
    have sz := sizeLine_eq
    refine seq_k fun K1 hn1 hr1 hb1 hct1 he1 => ?_
    simp_all! only [S__law_bag, D.scr.injEq]
    refine ⟨hz, hn63, fun o0 bg0 => hn1 _ (seq_k fun K2 hn2 hr2 hb2 hct2 he2 => ?_)⟩
    simp_all! only [S__law_take]
    refine ⟨0, bg0, by decide, by decide, by decide, fun d o d0 d1 bg => ?_⟩
    obtain ⟨w, ew, w1, w8⟩ : ∃ w : Nat, 1 + d = (w : Int) ∧ 1 ≤ w ∧ w ≤ 8 := ⟨(1 + d).toNat, by omega, by omega, by omega⟩
    rw [ew]
    refine ⟨o, _, w, rfl, bg, by decide, w1, w8, fun lv o3 hlv bg3 => ?_⟩
    walk_at "lv"
    refine hn2 _ (seq_k fun K3 hn3 hr3 hb3 hct3 he3 => ?_)
    walk_at "lv"
    refine ⟨o3, _, lv, w, rfl, bg3, by decide, w1, w8, hlv, fun H o4 hH bg4 => ?_⟩
    walk_at "lv"
    refine hn3 _ (seq_k fun K4 hn4 hr4 hb4 hct4 he4 => ?_)
    walk_at "lv"
    refine ⟨o4, _, lv, w, rfl, bg4, by decide, w1, w8, hlv, fun R o5 r6 hR bg5 => ?_⟩
    walk_at "lv"
    refine hn4 _ (seq_k fun K5 hn5 hr5 hb5 hct5 he5 => ?_)
    walk_at "lv"
    refine ⟨o5, _, lv, w, rfl, bg5, by decide, w1, w8, hlv, fun x o6 lx nx bg6 => ?_⟩
    walk_at "lv"
    have C : Case w lv H R := ⟨w1, w8, hlv, hH, hR, by omega⟩
    have lH := hH.len
    refine hn5 _ (seq_k fun K6 hn6 hr6 hb6 hct6 he6 => ?_)
    walk_at "lv"
    refine hout_call C rfl rfl fun L oL lL => ?_
    walk_at "lv"
    refine hn6 _ (seq_k fun K7 hn7 hr7 hb7 hct7 he7 => ?_)
    refine if_or fun G g0 _ => ?_
    walk_at "lv"
    refine ⟨L, w, lv, H, R, rfl, C, oL, lL, ?_⟩
    walk_at "lv"
    refine g0 _ (if_k fun G g0 _ => ?_)
    walk_at "lv"
    refine ⟨L, H, R, x, w, rfl, oL, lH, C.lens, lx, nx, w8, ?_⟩
    walk_at "lv"
    refine g0 _ ?_
    walk_at "lv"
    refine hn7 _ (seq_k fun K8 hn8 hr8 hb8 hct8 he8 => ?_)
    refine (?_ : wFor (.n 7) _ bLaw _ _)
    walk_at "lv"
    refine ⟨lv, H, w, rfl, w1, w8, hlv, hH, fun rows hrows => ?_⟩
    walk_at "lv"
    refine lp_each2 (fun o => [some (.fz (.scr ns)), some (.ow o6), some (.fz (levD lv)), some (.fz (highD H)), some (.fz (.lst (R.map rowD))), some (.fz (rowD x)), some (.fz (.lst (L.map highD))), o]) (fun _ => True.intro) (fun o7 => ?_) _ (fun d hd o7 => ?_) none
    · refine hn8 _ (ret_and_k fun F f => ?_)
      refine call_v [3, 4, 6] [highD H, .lst (R.map rowD), .lst (L.map highD)] mS__law_again rfl rfl ?_
      refine ⟨L, w, lv, H, R, rfl, C, r6, oL, lL, rfl, fun _ z => (nomatch z), f _ ?_⟩
      walk_at "lv"
      refine ⟨o6, _, w, lv, H, R, rfl, bg6, by decide, C, fun o' => ?_⟩
      exact ⟨rfl, fun _ z => (nomatch z), q _ rfl⟩
    · obtain ⟨r, hr, rfl⟩ := List.mem_map.mp hd
      refine ⟨_, rfl, fun K' hK' => ?_⟩
      simp only [List.set_cons_zero, List.set_cons_succ]
      refine (?_ : wIf _ _ _ _ _)
      refine if_k fun G g0 _ => ?_
      refine (?_ : wCall _ _ _ _ _)
      refine call_v [6, 3, 4, 7] [.lst (L.map highD), highD H, .lst (R.map rowD), rowD r] mS__law_outside rfl rfl ?_
      refine ⟨L, H, R, r, w, rfl, oL, lH, C.lens, (hrows r hr).1, (hrows r hr).2, w8, rfl, fun _ z => (nomatch z), ?_⟩
      walk_at "lv"
      exact g0 _ (hK' _)
end LV


set_option Elab.async false
set_option linter.all false
set_option maxRecDepth 100000
set_option maxHeartbeats 2000000
namespace LV
open PySem PySem.Spec L2
def topS (i : Nat) : Stmt := PySem.Challenge.pw_lampthrong_k05_whole_highs_outside.main.body.getD i (.Pass ⟨0, 0, 0, 0⟩)
abbrev s_is_integer : Stmt := topS 5
theorem sc_is_integer : FnScope ["value"] ["value"] (defScope s_is_integer) := ⟨rfl, rfl, rfl, by decide +kernel, rfl, by decide +kernel, by decide +kernel⟩
abbrev s_entries_cover : Stmt := topS 11
theorem sc_entries_cover : FnScope ["big", "small", "big_entry", "small_entry"] ["big", "small"] (defScope s_entries_cover) := ⟨rfl, rfl, rfl, by decide +kernel, rfl, by decide +kernel, by decide +kernel⟩
abbrev s_high_key : Stmt := topS 18
theorem sc_high_key : FnScope ["high", "entry"] ["high"] (defScope s_high_key) := ⟨rfl, rfl, rfl, by decide +kernel, rfl, by decide +kernel, by decide +kernel⟩
abbrev s_entries_under : Stmt := topS 20
theorem sc_entries_under : FnScope ["one", "other", "entry", "bound"] ["one", "other"] (defScope s_entries_under) := ⟨rfl, rfl, rfl, by decide +kernel, rfl, by decide +kernel, by decide +kernel⟩
abbrev s__law_bag : Stmt := topS 26
theorem sc__law_bag : FnScope ["_law_script", "_law_cells", "_law_cell", "_law_great", "_law_seed"] ["_law_script"] (defScope s__law_bag) := ⟨rfl, rfl, rfl, by decide +kernel, rfl, by decide +kernel, by decide +kernel⟩
abbrev s__law_take : Stmt := topS 27
theorem sc__law_take : FnScope ["_law_bag_here", "_law_many", "_law_digit", "_law_cells", "_law_cell", "_law_first", "_law_second", "_law_third"] ["_law_bag_here", "_law_many"] (defScope s__law_take) := ⟨rfl, rfl, rfl, by decide +kernel, rfl, by decide +kernel, by decide +kernel⟩
abbrev s__law_is_integer : Stmt := topS 28
theorem sc__law_is_integer : FnScope ["_law_value"] ["_law_value"] (defScope s__law_is_integer) := ⟨rfl, rfl, rfl, by decide +kernel, rfl, by decide +kernel, by decide +kernel⟩
abbrev s__law_key : Stmt := topS 30
theorem sc__law_key : FnScope ["_law_high_here", "_law_entry"] ["_law_high_here"] (defScope s__law_key) := ⟨rfl, rfl, rfl, by decide +kernel, rfl, by decide +kernel, by decide +kernel⟩
abbrev s__law_below : Stmt := topS 35
theorem sc__law_below : FnScope ["_law_one", "_law_other", "_law_k"] ["_law_one", "_law_other"] (defScope s__law_below) := ⟨rfl, rfl, rfl, by decide +kernel, rfl, by decide +kernel, by decide +kernel⟩
abbrev s__law_over : Stmt := topS 36
theorem sc__law_over : FnScope ["_law_big", "_law_small", "_law_k"] ["_law_big", "_law_small"] (defScope s__law_over) := ⟨rfl, rfl, rfl, by decide +kernel, rfl, by decide +kernel, by decide +kernel⟩
abbrev s__law_keeps_out : Stmt := topS 37
theorem sc__law_keeps_out : FnScope ["_law_high_here", "_law_row", "_law_k"] ["_law_high_here", "_law_row"] (defScope s__law_keeps_out) := ⟨rfl, rfl, rfl, by decide +kernel, rfl, by decide +kernel, by decide +kernel⟩
abbrev s__law_values : Stmt := topS 39
theorem sc__law_values : FnScope ["_law_levels_here", "_law_high_here", "_law_k", "_law_found"] ["_law_levels_here", "_law_high_here", "_law_k"] (defScope s__law_values) := ⟨rfl, rfl, rfl, by decide +kernel, rfl, by decide +kernel, by decide +kernel⟩
abbrev s__law_odd : Stmt := topS 45
theorem sc__law_odd : FnScope ["_law_row", "_law_place", "_law_way", "_law_parts"] ["_law_row", "_law_place", "_law_way"] (defScope s__law_odd) := ⟨rfl, rfl, rfl, by decide +kernel, rfl, by decide +kernel, by decide +kernel⟩
abbrev s_is_row : Stmt := topS 8
theorem sc_is_row : FnScope ["value", "width", "entry"] ["value", "width"] (defScope s_is_row) := ⟨rfl, rfl, rfl, by decide +kernel, rfl, by decide +kernel, by decide +kernel⟩
abbrev s_covers_some : Stmt := topS 12
theorem sc_covers_some : FnScope ["row", "rows", "small"] ["row", "rows"] (defScope s_covers_some) := ⟨rfl, rfl, rfl, by decide +kernel, rfl, by decide +kernel, by decide +kernel⟩
abbrev s_is_high : Stmt := topS 17
theorem sc_is_high : FnScope ["value", "width", "entry"] ["value", "width"] (defScope s_is_high) := ⟨rfl, rfl, rfl, by decide +kernel, rfl, by decide +kernel, by decide +kernel⟩
abbrev s_under_some : Stmt := topS 21
theorem sc_under_some : FnScope ["one", "highs", "high"] ["one", "highs"] (defScope s_under_some) := ⟨rfl, rfl, rfl, by decide +kernel, rfl, by decide +kernel, by decide +kernel⟩
abbrev s_parts_outside : Stmt := topS 23
theorem sc_parts_outside : FnScope ["high", "row", "parts", "position", "entry"] ["high", "row"] (defScope s_parts_outside) := ⟨rfl, rfl, rfl, by decide +kernel, rfl, by decide +kernel, by decide +kernel⟩
abbrev s__law_is_high : Stmt := topS 29
theorem sc__law_is_high : FnScope ["_law_value", "_law_width", "_law_entry"] ["_law_value", "_law_width"] (defScope s__law_is_high) := ⟨rfl, rfl, rfl, by decide +kernel, rfl, by decide +kernel, by decide +kernel⟩
abbrev s__law_levels : Stmt := topS 31
theorem sc__law_levels : FnScope ["_law_bag_here", "_law_width", "_law_levels_here", "_law_k", "_law_many", "_law_row", "_law_last", "_law_j"] ["_law_bag_here", "_law_width"] (defScope s__law_levels) := ⟨rfl, rfl, rfl, by decide +kernel, rfl, by decide +kernel, by decide +kernel⟩
abbrev s__law_high : Stmt := topS 32
theorem sc__law_high : FnScope ["_law_bag_here", "_law_levels_here", "_law_found", "_law_row", "_law_kind", "_law_level"] ["_law_bag_here", "_law_levels_here"] (defScope s__law_high) := ⟨rfl, rfl, rfl, by decide +kernel, rfl, by decide +kernel, by decide +kernel⟩
abbrev s__law_rows : Stmt := topS 33
theorem sc__law_rows : FnScope ["_law_bag_here", "_law_levels_here", "_law_rows_here", "_law_k", "_law_entries", "_law_place", "_law_row"] ["_law_bag_here", "_law_levels_here"] (defScope s__law_rows) := ⟨rfl, rfl, rfl, by decide +kernel, rfl, by decide +kernel, by decide +kernel⟩
abbrev s__law_drawn : Stmt := topS 34
theorem sc__law_drawn : FnScope ["_law_bag_here", "_law_levels_here", "_law_found", "_law_row", "_law_level", "_law_kind", "_law_step"] ["_law_bag_here", "_law_levels_here"] (defScope s__law_drawn) := ⟨rfl, rfl, rfl, by decide +kernel, rfl, by decide +kernel, by decide +kernel⟩
abbrev s__law_good : Stmt := topS 38
theorem sc__law_good : FnScope ["_law_told", "_law_high_here", "_law_rows_here", "_law_row", "_law_k", "_law_raised"] ["_law_told", "_law_high_here", "_law_rows_here"] (defScope s__law_good) := ⟨rfl, rfl, rfl, by decide +kernel, rfl, by decide +kernel, by decide +kernel⟩
abbrev s__law_cube : Stmt := topS 40
theorem sc__law_cube : FnScope ["_law_levels_here", "_law_high_here", "_law_cube_here", "_law_k", "_law_found", "_law_row", "_law_entry"] ["_law_levels_here", "_law_high_here"] (defScope s__law_cube) := ⟨rfl, rfl, rfl, by decide +kernel, rfl, by decide +kernel, by decide +kernel⟩
abbrev s__law_outside : Stmt := topS 41
theorem sc__law_outside : FnScope ["_law_told", "_law_high_here", "_law_rows_here", "_law_row", "_law_due", "_law_small", "_law_one"] ["_law_told", "_law_high_here", "_law_rows_here", "_law_row"] (defScope s__law_outside) := ⟨rfl, rfl, rfl, by decide +kernel, rfl, by decide +kernel, by decide +kernel⟩
abbrev s_check_row : Stmt := topS 9
theorem sc_check_row : FnScope ["row", "width"] ["row", "width"] (defScope s_check_row) := ⟨rfl, rfl, rfl, by decide +kernel, rfl, by decide +kernel, by decide +kernel⟩
abbrev s_least_among : Stmt := topS 13
theorem sc_least_among : FnScope ["rows", "kept", "row"] ["rows"] (defScope s_least_among) := ⟨rfl, rfl, rfl, by decide +kernel, rfl, by decide +kernel, by decide +kernel⟩
abbrev s_check_high : Stmt := topS 19
theorem sc_check_high : FnScope ["high", "width"] ["high", "width"] (defScope s_check_high) := ⟨rfl, rfl, rfl, by decide +kernel, rfl, by decide +kernel, by decide +kernel⟩
abbrev s__law_shaped : Stmt := topS 42
theorem sc__law_shaped : FnScope ["_law_told", "_law_high_here", "_law_rows_here", "_law_one", "_law_k"] ["_law_told", "_law_high_here", "_law_rows_here"] (defScope s__law_shaped) := ⟨rfl, rfl, rfl, by decide +kernel, rfl, by decide +kernel, by decide +kernel⟩
abbrev s_check_rows : Stmt := topS 10
theorem sc_check_rows : FnScope ["rows", "width", "row"] ["rows"] (defScope s_check_rows) := ⟨rfl, rfl, rfl, by decide +kernel, rfl, by decide +kernel, by decide +kernel⟩
abbrev s_greatest_among : Stmt := topS 22
theorem sc_greatest_among : FnScope ["highs", "limit", "distinct", "high", "kept"] ["highs", "limit"] (defScope s_greatest_among) := ⟨rfl, rfl, rfl, by decide +kernel, rfl, by decide +kernel, by decide +kernel⟩
abbrev s_least_of : Stmt := topS 14
theorem sc_least_of : FnScope ["rows"] ["rows"] (defScope s_least_of) := ⟨rfl, rfl, rfl, by decide +kernel, rfl, by decide +kernel, by decide +kernel⟩
abbrev s_highs_outside : Stmt := topS 24
theorem sc_highs_outside : FnScope ["high", "rows", "row", "kept", "one", "part"] ["high", "rows"] (defScope s_highs_outside) := ⟨rfl, rfl, rfl, by decide +kernel, rfl, by decide +kernel, by decide +kernel⟩
abbrev s__law_again : Stmt := topS 43
theorem sc__law_again : FnScope ["_law_high_here", "_law_rows_here", "_law_told", "_law_kept", "_law_handed", "_law_changed"] ["_law_high_here", "_law_rows_here", "_law_told"] (defScope s__law_again) := ⟨rfl, rfl, rfl, by decide +kernel, rfl, by decide +kernel, by decide +kernel⟩
abbrev s__law_refused : Stmt := topS 44
theorem sc__law_refused : FnScope ["_law_high_here", "_law_rows_here", "e"] ["_law_high_here", "_law_rows_here"] (defScope s__law_refused) := ⟨rfl, rfl, rfl, by decide +kernel, rfl, by decide +kernel, by decide +kernel⟩
abbrev s__law_refusals : Stmt := topS 46
theorem sc__law_refusals : FnScope ["_law_bag_here", "_law_high_here", "_law_rows_here", "_law_width", "_law_row", "_law_place", "_law_at", "_law_way", "_law_odd_here", "_law_wrong"] ["_law_bag_here", "_law_high_here", "_law_rows_here"] (defScope s__law_refusals) := ⟨rfl, rfl, rfl, by decide +kernel, rfl, by decide +kernel, by decide +kernel⟩
abbrev s_law : Stmt := topS 47
theorem sc_law : FnScope ["_law_script", "_law_bag_here", "_law_levels_here", "_law_high_here", "_law_rows_here", "_law_drawn_here", "_law_told", "_law_row"] ["_law_script"] (defScope s_law) := ⟨rfl, rfl, rfl, by decide +kernel, rfl, by decide +kernel, by decide +kernel⟩
/-- what the module holds when the law is called -/
structure Tp (P : Program) (w : World) (K : PySem.W.Frag) (mg : Str → Option Value) (base : Heap) : Prop where
  d_is_integer : ∃ f fd, DefAt K mg "is_integer" s_is_integer ["value"] f fd
  d_entries_cover : ∃ f fd, DefAt K mg "entries_cover" s_entries_cover ["big", "small"] f fd
  d_high_key : ∃ f fd, DefAt K mg "high_key" s_high_key ["high"] f fd
  d_entries_under : ∃ f fd, DefAt K mg "entries_under" s_entries_under ["one", "other"] f fd
  d__law_bag : ∃ f fd, DefAt K mg "_law_bag" s__law_bag ["_law_script"] f fd
  d__law_take : ∃ f fd, DefAt K mg "_law_take" s__law_take ["_law_bag_here", "_law_many"] f fd
  d__law_is_integer : ∃ f fd, DefAt K mg "_law_is_integer" s__law_is_integer ["_law_value"] f fd
  d__law_key : ∃ f fd, DefAt K mg "_law_key" s__law_key ["_law_high_here"] f fd
  d__law_below : ∃ f fd, DefAt K mg "_law_below" s__law_below ["_law_one", "_law_other"] f fd
  d__law_over : ∃ f fd, DefAt K mg "_law_over" s__law_over ["_law_big", "_law_small"] f fd
  d__law_keeps_out : ∃ f fd, DefAt K mg "_law_keeps_out" s__law_keeps_out ["_law_high_here", "_law_row"] f fd
  d__law_values : ∃ f fd, DefAt K mg "_law_values" s__law_values ["_law_levels_here", "_law_high_here", "_law_k"] f fd
  d__law_odd : ∃ f fd, DefAt K mg "_law_odd" s__law_odd ["_law_row", "_law_place", "_law_way"] f fd
  d_is_row : ∃ f fd, DefAt K mg "is_row" s_is_row ["value", "width"] f fd
  d_covers_some : ∃ f fd, DefAt K mg "covers_some" s_covers_some ["row", "rows"] f fd
  d_is_high : ∃ f fd, DefAt K mg "is_high" s_is_high ["value", "width"] f fd
  d_under_some : ∃ f fd, DefAt K mg "under_some" s_under_some ["one", "highs"] f fd
  d_parts_outside : ∃ f fd, DefAt K mg "parts_outside" s_parts_outside ["high", "row"] f fd
  d__law_is_high : ∃ f fd, DefAt K mg "_law_is_high" s__law_is_high ["_law_value", "_law_width"] f fd
  d__law_levels : ∃ f fd, DefAt K mg "_law_levels" s__law_levels ["_law_bag_here", "_law_width"] f fd
  d__law_high : ∃ f fd, DefAt K mg "_law_high" s__law_high ["_law_bag_here", "_law_levels_here"] f fd
  d__law_rows : ∃ f fd, DefAt K mg "_law_rows" s__law_rows ["_law_bag_here", "_law_levels_here"] f fd
  d__law_drawn : ∃ f fd, DefAt K mg "_law_drawn" s__law_drawn ["_law_bag_here", "_law_levels_here"] f fd
  d__law_good : ∃ f fd, DefAt K mg "_law_good" s__law_good ["_law_told", "_law_high_here", "_law_rows_here"] f fd
  d__law_cube : ∃ f fd, DefAt K mg "_law_cube" s__law_cube ["_law_levels_here", "_law_high_here"] f fd
  d__law_outside : ∃ f fd, DefAt K mg "_law_outside" s__law_outside ["_law_told", "_law_high_here", "_law_rows_here", "_law_row"] f fd
  d_check_row : ∃ f fd, DefAt K mg "check_row" s_check_row ["row", "width"] f fd
  d_least_among : ∃ f fd, DefAt K mg "least_among" s_least_among ["rows"] f fd
  d_check_high : ∃ f fd, DefAt K mg "check_high" s_check_high ["high", "width"] f fd
  d__law_shaped : ∃ f fd, DefAt K mg "_law_shaped" s__law_shaped ["_law_told", "_law_high_here", "_law_rows_here"] f fd
  d_check_rows : ∃ f fd, DefAt K mg "check_rows" s_check_rows ["rows"] f fd
  d_greatest_among : ∃ f fd, DefAt K mg "greatest_among" s_greatest_among ["highs", "limit"] f fd
  d_least_of : ∃ f fd, DefAt K mg "least_of" s_least_of ["rows"] f fd
  d_highs_outside : ∃ f fd, DefAt K mg "highs_outside" s_highs_outside ["high", "rows"] f fd
  d__law_again : ∃ f fd, DefAt K mg "_law_again" s__law_again ["_law_high_here", "_law_rows_here", "_law_told"] f fd
  d__law_refused : ∃ f fd, DefAt K mg "_law_refused" s__law_refused ["_law_high_here", "_law_rows_here"] f fd
  d__law_refusals : ∃ f fd, DefAt K mg "_law_refusals" s__law_refusals ["_law_bag_here", "_law_high_here", "_law_rows_here"] f fd
  d_law : ∃ f fd, DefAt K mg "law" s_law ["_law_script"] f fd
  z_abs : mg "abs" = none
  z_all : mg "all" = none
  z_bool : mg "bool" = none
  z_enumerate : mg "enumerate" = none
  z_int : mg "int" = none
  z_isinstance : mg "isinstance" = none
  z_len : mg "len" = none
  z_list : mg "list" = none
  z_max : mg "max" = none
  z_range : mg "range" = none
  z_repr : mg "repr" = none
  z_set : mg "set" = none
  z_sorted : mg "sorted" = none
  z_tuple : mg "tuple" = none
  z_zip : mg "zip" = none
  c_MOST_HIGHS : ∃ t, mg "MOST_HIGHS" = some (.int 1000 t)
  c_WIDEST_ROW : ∃ t, mg "WIDEST_ROW" = some (.int 8 t)
  x_InvalidRow : XCls P w K mg base "InvalidRow" "value"
  e_InvalidRow_InvalidRow : Exm K mg "InvalidRow" "InvalidRow" true
theorem der_is_integer {P : Program} {w : World} {K : PySem.W.Frag} {mg : Str → Option Value} {base : Heap} (T : Tp P w K mg base) {f : Addr} (cdv : Value) (A : Around) (outer : List Env) (s : Shared) (H : Hp) (E : XK) (hr : RoomG 0 (A.deeper (PyProof.Rows.envOfC "is_integer" (defScope s_is_integer) s.heap.objs.size f cdv)))
    (σ₀ : L2.St) (h₀ : Hp) (xc : Addr → Value → Option Addr → Prop) : SSs (cxOf (L2.CX P w) P w K mg base ["value"] "is_integer" (defScope s_is_integer) f cdv A outer s H E) ⟨[], σ₀, h₀, xc⟩ (fun cls d _ H => E cls d H) (defBody s_is_integer) (w_is_integer) :=
  (sss_one (ss_ret (se_and (se_isi (T := .int) (se_var (i := 0)) (by rfl) T.z_isinstance (by rfl) T.z_int (by with_unfolding_all rfl)) (se_one (se_not (se_isi (T := .bl) (se_var (i := 0)) (by rfl) T.z_isinstance (by rfl) T.z_bool (by with_unfolding_all rfl)))))))
theorem der_entries_cover {P : Program} {w : World} {K : PySem.W.Frag} {mg : Str → Option Value} {base : Heap} (T : Tp P w K mg base) {f : Addr} (cdv : Value) (A : Around) (outer : List Env) (s : Shared) (H : Hp) (E : XK) (hr : RoomG 0 (A.deeper (PyProof.Rows.envOfC "entries_cover" (defScope s_entries_cover) s.heap.objs.size f cdv)))
    (σ₀ : L2.St) (h₀ : Hp) (xc : Addr → Value → Option Addr → Prop) : SSs (cxOf (L2.CX P w) P w K mg base ["big", "small", "big_entry", "small_entry"] "entries_cover" (defScope s_entries_cover) f cdv A outer s H E) ⟨[], σ₀, h₀, xc⟩ (fun cls d _ H => E cls d H) (defBody s_entries_cover) (w_entries_cover) :=
  (sss_cons (ss_for poF rfl (si_zip (by rfl) T.z_zip (sa_cons (se_var (i := 0)) (sa_cons (se_var (i := 1)) sa_nil))) (sg_tup (is := [2, 3]) rfl (pgs_cons (pg_name (i := 2) sc_entries_cover.nd rfl (by first | exact .inl rfl | exact .inr rfl)) (pgs_cons (pg_name (i := 3) sc_entries_cover.nd rfl (by first | exact .inl rfl | exact .inr rfl)) pgs_nil))) (show ∀ i ∈ ([2, 3] : List Nat), i ∉ ([] : List Nat) from by decide)
  (sss_one (ss_if (st_cmp (vr_lt hr.u0) (se_var (i := 2)) (se_var (i := 3)) (by with_unfolding_all rfl))
  (sss_one (ss_ret se_bl))
  sss_nil)))
  (sss_one (ss_ret se_bl)))
theorem der_high_key {P : Program} {w : World} {K : PySem.W.Frag} {mg : Str → Option Value} {base : Heap} (T : Tp P w K mg base) {f : Addr} (cdv : Value) (A : Around) (outer : List Env) (s : Shared) (H : Hp) (E : XK) (hr : RoomG 0 (A.deeper (PyProof.Rows.envOfC "high_key" (defScope s_high_key) s.heap.objs.size f cdv)))
    (σ₀ : L2.St) (h₀ : Hp) (xc : Addr → Value → Option Addr → Prop) : SSs (cxOf (L2.CX P w) P w K mg base ["high", "entry"] "high_key" (defScope s_high_key) f cdv A outer s H E) ⟨[], σ₀, h₀, xc⟩ (fun cls d _ H => E cls d H) (defBody s_high_key) (w_high_key) :=
  (sss_one (ss_ret (se_callTy vl_tuple (by rfl) T.z_tuple (by with_unfolding_all rfl) (sa_cons (se_lcV (own := [("entry", 1)]) rfl sc_high_key.nd (show BlkOk ["high", "entry"] (defScope s_high_key) _ [("entry", 1)] from ⟨rfl, by decide +kernel, by decide +kernel, by decide +kernel, by decide +kernel⟩) (si_it (se_var (i := 0))) (show ∀ i ∈ ([1] : List Nat), i ∉ ([] : List Nat) from by decide) (show ∀ i ∈ ([1] : List Nat), i ∈ ([1] : List Nat) from by decide) (fun _ _ _ _ _ => (sg_name (i := 1) sc_high_key.nd rfl (by first | exact .inl rfl | exact .inr rfl))) (fun _ _ _ _ _ => sts_nil) (fun _ _ _ _ _ => (se_ite (st_cmp vr_isN (se_var (i := 1)) se_non (by with_unfolding_all rfl)) (se_tup (sa_cons se_int (sa_cons se_int sa_nil))) (se_tup (sa_cons se_int (sa_cons (se_var (i := 1)) sa_nil)))))) sa_nil))))
theorem der_entries_under {P : Program} {w : World} {K : PySem.W.Frag} {mg : Str → Option Value} {base : Heap} (T : Tp P w K mg base) {f : Addr} (cdv : Value) (A : Around) (outer : List Env) (s : Shared) (H : Hp) (E : XK) (hr : RoomG 0 (A.deeper (PyProof.Rows.envOfC "entries_under" (defScope s_entries_under) s.heap.objs.size f cdv)))
    (σ₀ : L2.St) (h₀ : Hp) (xc : Addr → Value → Option Addr → Prop) : SSs (cxOf (L2.CX P w) P w K mg base ["one", "other", "entry", "bound"] "entries_under" (defScope s_entries_under) f cdv A outer s H E) ⟨[], σ₀, h₀, xc⟩ (fun cls d _ H => E cls d H) (defBody s_entries_under) (w_entries_under) :=
  (sss_cons (ss_for poF rfl (si_zip (by rfl) T.z_zip (sa_cons (se_var (i := 0)) (sa_cons (se_var (i := 1)) sa_nil))) (sg_tup (is := [2, 3]) rfl (pgs_cons (pg_name (i := 2) sc_entries_under.nd rfl (by first | exact .inl rfl | exact .inr rfl)) (pgs_cons (pg_name (i := 3) sc_entries_under.nd rfl (by first | exact .inl rfl | exact .inr rfl)) pgs_nil))) (show ∀ i ∈ ([2, 3] : List Nat), i ∉ ([] : List Nat) from by decide)
  (sss_one (ss_if (SPW.st (spw_and (st_cmp vr_isNotN (se_var (i := 3)) se_non (by with_unfolding_all rfl)) (spw_and1 (SPW.st (spw_or (st_cmp vr_isN (se_var (i := 2)) se_non (by with_unfolding_all rfl)) (spw_or1 (st_cmp (vr_gt hr.u0) (se_var (i := 2)) (se_var (i := 3)) (by with_unfolding_all rfl))))))))
  (sss_one (ss_ret se_bl))
  sss_nil)))
  (sss_one (ss_ret se_bl)))
theorem der__law_bag {P : Program} {w : World} {K : PySem.W.Frag} {mg : Str → Option Value} {base : Heap} (T : Tp P w K mg base) {f : Addr} (cdv : Value) (A : Around) (outer : List Env) (s : Shared) (H : Hp) (E : XK) (hr : RoomG 0 (A.deeper (PyProof.Rows.envOfC "_law_bag" (defScope s__law_bag) s.heap.objs.size f cdv)))
    (σ₀ : L2.St) (h₀ : Hp) (xc : Addr → Value → Option Addr → Prop) : SSs (cxOf (L2.CX P w) P w K mg base ["_law_script", "_law_cells", "_law_cell", "_law_great", "_law_seed"] "_law_bag" (defScope s__law_bag) f cdv A outer s H E) ⟨[], σ₀, h₀, xc⟩ (fun cls d _ H => E cls d H) (defBody s__law_bag) (w__law_bag) :=
  (sss_cons (ss_setLcV (own := [("_law_cell", 2)]) (i := 1) (show 1 ∉ ([] : List Nat) from by decide) rfl sc__law_bag.nd rfl rfl (show BlkOk ["_law_script", "_law_cells", "_law_cell", "_law_great", "_law_seed"] (defScope s__law_bag) _ [("_law_cell", 2)] from ⟨rfl, by decide +kernel, by decide +kernel, by decide +kernel, by decide +kernel⟩) (si_it (se_sl (se_var (i := 0)) so_none (so_some se_int))) (show ∀ i ∈ ([2] : List Nat), i ∉ ([] : List Nat) from by decide) (show ∀ i ∈ ([2] : List Nat), i ∈ ([2] : List Nat) from by decide) (fun _ _ _ _ _ => (sg_name (i := 2) sc__law_bag.nd rfl (by first | exact .inl rfl | exact .inr rfl))) (fun _ _ _ _ _ => sts_nil) (fun _ _ _ _ _ => (se_callTy vl_int (by rfl) T.z_int (by with_unfolding_all rfl) (sa_cons (se_var (i := 2)) sa_nil))))
  (sss_cons (ss_set (i := 3) (show 3 ∉ ([] : List Nat) from by decide) sc__law_bag.nd rfl (by first | exact .inl rfl | exact .inr rfl) se_int)
  (sss_cons (ss_set (i := 4) (show 4 ∉ ([] : List Nat) from by decide) sc__law_bag.nd rfl (by first | exact .inl rfl | exact .inr rfl) se_int)
  (sss_cons (ss_for poF rfl (si_it (se_var (i := 1))) (sg_name (i := 2) sc__law_bag.nd rfl (by first | exact .inl rfl | exact .inr rfl)) (show ∀ i ∈ ([2] : List Nat), i ∉ ([] : List Nat) from by decide)
  (sss_cons (ss_set (i := 4) (show 4 ∉ ([] : List Nat) from by decide) sc__law_bag.nd rfl (by first | exact .inl rfl | exact .inr rfl) (se_op vr_mod (se_callTy vl_int (by rfl) T.z_int (by with_unfolding_all rfl) (sa_cons (se_op vr_add (se_op vr_add (se_op vr_mulT (se_var (i := 4)) se_int) (se_op vr_mod (se_callTy vl_int (by rfl) T.z_int (by with_unfolding_all rfl) (sa_cons (se_var (i := 2)) sa_nil)) se_int)) se_int) sa_nil)) se_int))
  (sss_one (ss_if (SPW.st (spw_and (st_cmp (vr_eq hr.u64) (se_var (i := 3)) se_int (by with_unfolding_all rfl)) (spw_and1 (st_cmp (vr_ge hr.u0) (se_callB vl_abs (by rfl) T.z_abs (by with_unfolding_all rfl) (sa_cons (se_var (i := 2)) sa_nil)) (se_op vr_pow se_int se_int) (by with_unfolding_all rfl)))))
  (sss_one (ss_set (i := 3) (show 3 ∉ ([] : List Nat) from by decide) sc__law_bag.nd rfl (by first | exact .inl rfl | exact .inr rfl) (se_callB vl_abs (by rfl) T.z_abs (by with_unfolding_all rfl) (sa_cons (se_var (i := 2)) sa_nil))))
  sss_nil))))
  (sss_one (ss_ret (se_lst (sa_cons (se_var (i := 3)) (sa_cons (se_var (i := 4)) (sa_cons se_int (sa_cons (se_var (i := 1)) sa_nil)))))))))))
theorem der__law_take {P : Program} {w : World} {K : PySem.W.Frag} {mg : Str → Option Value} {base : Heap} (T : Tp P w K mg base) {f : Addr} (cdv : Value) (A : Around) (outer : List Env) (s : Shared) (H : Hp) (E : XK) (hr : RoomG 0 (A.deeper (PyProof.Rows.envOfC "_law_take" (defScope s__law_take) s.heap.objs.size f cdv)))
    (σ₀ : L2.St) (h₀ : Hp) (xc : Addr → Value → Option Addr → Prop) : SSs (cxOf (L2.CX P w) P w K mg base ["_law_bag_here", "_law_many", "_law_digit", "_law_cells", "_law_cell", "_law_first", "_law_second", "_law_third"] "_law_take" (defScope s__law_take) f cdv A outer s H E) ⟨[0], σ₀, h₀, xc⟩ (fun cls d _ H => E cls d H) (defBody s__law_take) (w__law_take) :=
  (sss_cons (ss_setIx (i := 0) (se_op vr_add (se_ix vi_ix (se_var (i := 0)) se_int) se_int) se_int)
  (sss_cons (ss_if (st_cmp (vr_gt hr.u0) (se_ix vi_ix (se_var (i := 0)) se_int) se_int (by with_unfolding_all rfl))
  (sss_cons (ss_set (i := 2) (show 2 ∉ ([0] : List Nat) from by decide) sc__law_take.nd rfl (by first | exact .inl rfl | exact .inr rfl) (se_op vr_mod (se_callTy vl_int (by rfl) T.z_int (by with_unfolding_all rfl) (sa_cons (se_ix vi_ix (se_var (i := 0)) se_int) sa_nil)) (se_var (i := 1))))
  (sss_cons (ss_setIx (i := 0) (se_op vr_div (se_ix vi_ix (se_var (i := 0)) se_int) (se_var (i := 1))) se_int)
  (sss_one (ss_ret (se_var (i := 2))))))
  sss_nil)
  (sss_cons (ss_set (i := 3) (show 3 ∉ ([0] : List Nat) from by decide) sc__law_take.nd rfl (by first | exact .inl rfl | exact .inr rfl) (se_ix vi_ix (se_var (i := 0)) se_int))
  (sss_cons (ss_if (st_not (st_tru (se_var (i := 3))))
  (sss_one (ss_ret (se_op vr_mod (se_callTy vl_int (by rfl) T.z_int (by with_unfolding_all rfl) (sa_cons (se_ix vi_ix (se_var (i := 0)) se_int) sa_nil)) (se_var (i := 1)))))
  sss_nil)
  (sss_cons (ss_set (i := 4) (show 4 ∉ ([0] : List Nat) from by decide) sc__law_take.nd rfl (by first | exact .inl rfl | exact .inr rfl) (se_ix vi_ix (se_var (i := 3)) (se_op vr_mod (se_callTy vl_int (by rfl) T.z_int (by with_unfolding_all rfl) (sa_cons (se_ix vi_ix (se_var (i := 0)) se_int) sa_nil)) (se_callB vl_len (by rfl) T.z_len (by with_unfolding_all rfl) (sa_cons (se_var (i := 3)) sa_nil)))))
  (sss_cons (ss_set (i := 5) (show 5 ∉ ([0] : List Nat) from by decide) sc__law_take.nd rfl (by first | exact .inl rfl | exact .inr rfl) (se_op vr_mod (se_callTy vl_int (by rfl) T.z_int (by with_unfolding_all rfl) (sa_cons (se_op vr_add (se_op vr_add (se_op vr_mulT (se_var (i := 4)) se_int) (se_op vr_mulT (se_ix vi_ix (se_var (i := 0)) se_int) se_int)) (se_ix vi_ix (se_var (i := 0)) se_int)) sa_nil)) se_int))
  (sss_cons (ss_set (i := 6) (show 6 ∉ ([0] : List Nat) from by decide) sc__law_take.nd rfl (by first | exact .inl rfl | exact .inr rfl) (se_op vr_mod (se_callTy vl_int (by rfl) T.z_int (by with_unfolding_all rfl) (sa_cons (se_op vr_add (se_op vr_mulT (se_var (i := 5)) (se_var (i := 5))) (se_ix vi_ix (se_var (i := 0)) se_int)) sa_nil)) se_int))
  (sss_cons (ss_set (i := 7) (show 7 ∉ ([0] : List Nat) from by decide) sc__law_take.nd rfl (by first | exact .inl rfl | exact .inr rfl) (se_op vr_mod (se_callTy vl_int (by rfl) T.z_int (by with_unfolding_all rfl) (sa_cons (se_op vr_add (se_op vr_mulT (se_var (i := 6)) (se_var (i := 6))) (se_ix vi_ix (se_var (i := 0)) se_int)) sa_nil)) se_int))
  (sss_one (ss_ret (se_op vr_mod (se_callTy vl_int (by rfl) T.z_int (by with_unfolding_all rfl) (sa_cons (se_op vr_div (se_var (i := 7)) se_int) sa_nil)) (se_var (i := 1)))))))))))))
theorem der__law_is_integer {P : Program} {w : World} {K : PySem.W.Frag} {mg : Str → Option Value} {base : Heap} (T : Tp P w K mg base) {f : Addr} (cdv : Value) (A : Around) (outer : List Env) (s : Shared) (H : Hp) (E : XK) (hr : RoomG 0 (A.deeper (PyProof.Rows.envOfC "_law_is_integer" (defScope s__law_is_integer) s.heap.objs.size f cdv)))
    (σ₀ : L2.St) (h₀ : Hp) (xc : Addr → Value → Option Addr → Prop) : SSs (cxOf (L2.CX P w) P w K mg base ["_law_value"] "_law_is_integer" (defScope s__law_is_integer) f cdv A outer s H E) ⟨[], σ₀, h₀, xc⟩ (fun cls d _ H => E cls d H) (defBody s__law_is_integer) (w__law_is_integer) :=
  (sss_one (ss_ret (se_and (se_isi (T := .int) (se_var (i := 0)) (by rfl) T.z_isinstance (by rfl) T.z_int (by with_unfolding_all rfl)) (se_one (se_not (se_isi (T := .bl) (se_var (i := 0)) (by rfl) T.z_isinstance (by rfl) T.z_bool (by with_unfolding_all rfl)))))))
theorem der__law_key {P : Program} {w : World} {K : PySem.W.Frag} {mg : Str → Option Value} {base : Heap} (T : Tp P w K mg base) {f : Addr} (cdv : Value) (A : Around) (outer : List Env) (s : Shared) (H : Hp) (E : XK) (hr : RoomG 0 (A.deeper (PyProof.Rows.envOfC "_law_key" (defScope s__law_key) s.heap.objs.size f cdv)))
    (σ₀ : L2.St) (h₀ : Hp) (xc : Addr → Value → Option Addr → Prop) : SSs (cxOf (L2.CX P w) P w K mg base ["_law_high_here", "_law_entry"] "_law_key" (defScope s__law_key) f cdv A outer s H E) ⟨[], σ₀, h₀, xc⟩ (fun cls d _ H => E cls d H) (defBody s__law_key) (w__law_key) :=
  (sss_one (ss_ret (se_callTy vl_tuple (by rfl) T.z_tuple (by with_unfolding_all rfl) (sa_cons (se_lcV (own := [("_law_entry", 1)]) rfl sc__law_key.nd (show BlkOk ["_law_high_here", "_law_entry"] (defScope s__law_key) _ [("_law_entry", 1)] from ⟨rfl, by decide +kernel, by decide +kernel, by decide +kernel, by decide +kernel⟩) (si_it (se_var (i := 0))) (show ∀ i ∈ ([1] : List Nat), i ∉ ([] : List Nat) from by decide) (show ∀ i ∈ ([1] : List Nat), i ∈ ([1] : List Nat) from by decide) (fun _ _ _ _ _ => (sg_name (i := 1) sc__law_key.nd rfl (by first | exact .inl rfl | exact .inr rfl))) (fun _ _ _ _ _ => sts_nil) (fun _ _ _ _ _ => (se_ite (st_cmp vr_isN (se_var (i := 1)) se_non (by with_unfolding_all rfl)) (se_tup (sa_cons se_int (sa_cons se_int sa_nil))) (se_tup (sa_cons se_int (sa_cons (se_var (i := 1)) sa_nil)))))) sa_nil))))
theorem der__law_below {P : Program} {w : World} {K : PySem.W.Frag} {mg : Str → Option Value} {base : Heap} (T : Tp P w K mg base) {f : Addr} (cdv : Value) (A : Around) (outer : List Env) (s : Shared) (H : Hp) (E : XK) (hr : RoomG 0 (A.deeper (PyProof.Rows.envOfC "_law_below" (defScope s__law_below) s.heap.objs.size f cdv)))
    (σ₀ : L2.St) (h₀ : Hp) (xc : Addr → Value → Option Addr → Prop) : SSs (cxOf (L2.CX P w) P w K mg base ["_law_one", "_law_other", "_law_k"] "_law_below" (defScope s__law_below) f cdv A outer s H E) ⟨[], σ₀, h₀, xc⟩ (fun cls d _ H => E cls d H) (defBody s__law_below) (w__law_below) :=
  (sss_cons (ss_for poF rfl (si_rng1 (by rfl) T.z_range (sa_cons (se_callB vl_len (by rfl) T.z_len (by with_unfolding_all rfl) (sa_cons (se_var (i := 1)) sa_nil)) sa_nil)) (sg_name (i := 2) sc__law_below.nd rfl (by first | exact .inl rfl | exact .inr rfl)) (show ∀ i ∈ ([2] : List Nat), i ∉ ([] : List Nat) from by decide)
  (sss_one (ss_if (SPW.st (spw_and (st_cmp vr_isNotN (se_ix vi_ix (se_var (i := 1)) (se_var (i := 2))) se_non (by with_unfolding_all rfl)) (spw_and1 (SPW.st (spw_or (st_cmp vr_isN (se_ix vi_ix (se_var (i := 0)) (se_var (i := 2))) se_non (by with_unfolding_all rfl)) (spw_or1 (st_cmp (vr_gt hr.u0) (se_ix vi_ix (se_var (i := 0)) (se_var (i := 2))) (se_ix vi_ix (se_var (i := 1)) (se_var (i := 2))) (by with_unfolding_all rfl))))))))
  (sss_one (ss_ret se_bl))
  sss_nil)))
  (sss_one (ss_ret se_bl)))
theorem der__law_over {P : Program} {w : World} {K : PySem.W.Frag} {mg : Str → Option Value} {base : Heap} (T : Tp P w K mg base) {f : Addr} (cdv : Value) (A : Around) (outer : List Env) (s : Shared) (H : Hp) (E : XK) (hr : RoomG 0 (A.deeper (PyProof.Rows.envOfC "_law_over" (defScope s__law_over) s.heap.objs.size f cdv)))
    (σ₀ : L2.St) (h₀ : Hp) (xc : Addr → Value → Option Addr → Prop) : SSs (cxOf (L2.CX P w) P w K mg base ["_law_big", "_law_small", "_law_k"] "_law_over" (defScope s__law_over) f cdv A outer s H E) ⟨[], σ₀, h₀, xc⟩ (fun cls d _ H => E cls d H) (defBody s__law_over) (w__law_over) :=
  (sss_cons (ss_for poF rfl (si_rng1 (by rfl) T.z_range (sa_cons (se_callB vl_len (by rfl) T.z_len (by with_unfolding_all rfl) (sa_cons (se_var (i := 1)) sa_nil)) sa_nil)) (sg_name (i := 2) sc__law_over.nd rfl (by first | exact .inl rfl | exact .inr rfl)) (show ∀ i ∈ ([2] : List Nat), i ∉ ([] : List Nat) from by decide)
  (sss_one (ss_if (st_cmp (vr_lt hr.u0) (se_ix vi_ix (se_var (i := 0)) (se_var (i := 2))) (se_ix vi_ix (se_var (i := 1)) (se_var (i := 2))) (by with_unfolding_all rfl))
  (sss_one (ss_ret se_bl))
  sss_nil)))
  (sss_one (ss_ret se_bl)))
theorem der__law_keeps_out {P : Program} {w : World} {K : PySem.W.Frag} {mg : Str → Option Value} {base : Heap} (T : Tp P w K mg base) {f : Addr} (cdv : Value) (A : Around) (outer : List Env) (s : Shared) (H : Hp) (E : XK) (hr : RoomG 0 (A.deeper (PyProof.Rows.envOfC "_law_keeps_out" (defScope s__law_keeps_out) s.heap.objs.size f cdv)))
    (σ₀ : L2.St) (h₀ : Hp) (xc : Addr → Value → Option Addr → Prop) : SSs (cxOf (L2.CX P w) P w K mg base ["_law_high_here", "_law_row", "_law_k"] "_law_keeps_out" (defScope s__law_keeps_out) f cdv A outer s H E) ⟨[], σ₀, h₀, xc⟩ (fun cls d _ H => E cls d H) (defBody s__law_keeps_out) (w__law_keeps_out) :=
  (sss_cons (ss_for poF rfl (si_rng1 (by rfl) T.z_range (sa_cons (se_callB vl_len (by rfl) T.z_len (by with_unfolding_all rfl) (sa_cons (se_var (i := 1)) sa_nil)) sa_nil)) (sg_name (i := 2) sc__law_keeps_out.nd rfl (by first | exact .inl rfl | exact .inr rfl)) (show ∀ i ∈ ([2] : List Nat), i ∉ ([] : List Nat) from by decide)
  (sss_one (ss_if (SPW.st (spw_and (st_cmp vr_isNotN (se_ix vi_ix (se_var (i := 0)) (se_var (i := 2))) se_non (by with_unfolding_all rfl)) (spw_and1 (st_cmp (vr_lt hr.u0) (se_ix vi_ix (se_var (i := 0)) (se_var (i := 2))) (se_ix vi_ix (se_var (i := 1)) (se_var (i := 2))) (by with_unfolding_all rfl)))))
  (sss_one (ss_ret se_bl))
  sss_nil)))
  (sss_one (ss_ret se_bl)))
theorem der__law_values {P : Program} {w : World} {K : PySem.W.Frag} {mg : Str → Option Value} {base : Heap} (T : Tp P w K mg base) {f : Addr} (cdv : Value) (A : Around) (outer : List Env) (s : Shared) (H : Hp) (E : XK) (hr : RoomG 0 (A.deeper (PyProof.Rows.envOfC "_law_values" (defScope s__law_values) s.heap.objs.size f cdv)))
    (σ₀ : L2.St) (h₀ : Hp) (xc : Addr → Value → Option Addr → Prop) : SSs (cxOf (L2.CX P w) P w K mg base ["_law_levels_here", "_law_high_here", "_law_k", "_law_found"] "_law_values" (defScope s__law_values) f cdv A outer s H E) ⟨[], σ₀, h₀, xc⟩ (fun cls d _ H => E cls d H) (defBody s__law_values) (w__law_values) :=
  (sss_cons (ss_set (i := 3) (show 3 ∉ ([] : List Nat) from by decide) sc__law_values.nd rfl (by first | exact .inl rfl | exact .inr rfl) (se_op vr_add (se_lst (sa_cons se_int sa_nil)) (se_ix vi_ix (se_var (i := 0)) (se_var (i := 2)))))
  (sss_cons (ss_if (SPW.st (spw_and (st_cmp (vr_lt hr.u0) (se_callB vl_len (by rfl) T.z_len (by with_unfolding_all rfl) (sa_cons (se_var (i := 0)) sa_nil)) se_int (by with_unfolding_all rfl)) (spw_and (st_cmp vr_isNotN (se_ix vi_ix (se_var (i := 1)) (se_var (i := 2))) se_non (by with_unfolding_all rfl)) (spw_and1 (st_cmp (vr_notIn hr.u65) (se_op vr_add (se_ix vi_ix (se_var (i := 1)) (se_var (i := 2))) se_int) (se_var (i := 3)) (by with_unfolding_all rfl))))))
  (sss_one (ss_app (i := 3) (se_op vr_add (se_ix vi_ix (se_var (i := 1)) (se_var (i := 2))) se_int)))
  sss_nil)
  (sss_one (ss_ret (se_var (i := 3))))))
theorem der__law_odd {P : Program} {w : World} {K : PySem.W.Frag} {mg : Str → Option Value} {base : Heap} (T : Tp P w K mg base) {f : Addr} (cdv : Value) (A : Around) (outer : List Env) (s : Shared) (H : Hp) (E : XK) (hr : RoomG 0 (A.deeper (PyProof.Rows.envOfC "_law_odd" (defScope s__law_odd) s.heap.objs.size f cdv)))
    (σ₀ : L2.St) (h₀ : Hp) (xc : Addr → Value → Option Addr → Prop) : SSs (cxOf (L2.CX P w) P w K mg base ["_law_row", "_law_place", "_law_way", "_law_parts"] "_law_odd" (defScope s__law_odd) f cdv A outer s H E) ⟨[], σ₀, h₀, xc⟩ (fun cls d _ H => E cls d H) (defBody s__law_odd) (w__law_odd) :=
  (sss_cons (ss_if (st_cmp (vr_eq hr.u64) (se_var (i := 2)) se_int (by with_unfolding_all rfl))
  (sss_one (ss_ret (se_callTy vl_list (by rfl) T.z_list (by with_unfolding_all rfl) (sa_cons (se_var (i := 0)) sa_nil))))
  sss_nil)
  (sss_cons (ss_if (st_cmp (vr_lt hr.u0) (se_var (i := 2)) se_int (by with_unfolding_all rfl))
  (sss_cons (ss_set (i := 3) (show 3 ∉ ([] : List Nat) from by decide) sc__law_odd.nd rfl (by first | exact .inl rfl | exact .inr rfl) (se_lst (sa_cons (se_tup (sa_cons (se_neg se_int) sa_nil)) (sa_cons (se_tup (sa_cons se_bl sa_nil)) (sa_cons (se_tup (sa_cons se_non sa_nil)) (sa_cons (se_tup (sa_cons se_str sa_nil)) (sa_cons (se_tup (sa_cons (se_tup (sa_cons se_int sa_nil)) sa_nil)) sa_nil)))))))
  (sss_one (ss_ret (se_op vr_add (se_op vr_add (se_sl (se_var (i := 0)) so_none (so_some (se_var (i := 1)))) (se_ix vi_ix (se_var (i := 3)) (se_op vr_sub (se_var (i := 2)) se_int))) (se_sl (se_var (i := 0)) (so_some (se_op vr_add (se_var (i := 1)) se_int)) so_none)))))
  sss_nil)
  (sss_cons (ss_if (st_cmp (vr_eq hr.u64) (se_var (i := 2)) se_int (by with_unfolding_all rfl))
  (sss_one (ss_ret (se_op vr_add (se_var (i := 0)) (se_tup (sa_cons se_int sa_nil)))))
  sss_nil)
  (sss_cons (ss_if (st_cmp (vr_eq hr.u64) (se_var (i := 2)) se_int (by with_unfolding_all rfl))
  (sss_one (ss_ret (se_sl (se_var (i := 0)) so_none (so_some (se_neg se_int)))))
  sss_nil)
  (sss_cons (ss_if (st_cmp (vr_eq hr.u64) (se_var (i := 2)) se_int (by with_unfolding_all rfl))
  (sss_one (ss_ret (se_tup sa_nil)))
  sss_nil)
  (sss_cons (ss_if (st_cmp (vr_eq hr.u64) (se_var (i := 2)) se_int (by with_unfolding_all rfl))
  (sss_one (ss_ret (se_tup (sa_cons se_int (sa_cons se_int (sa_cons se_int (sa_cons se_int (sa_cons se_int (sa_cons se_int (sa_cons se_int (sa_cons se_int (sa_cons se_int sa_nil))))))))))))
  sss_nil)
  (sss_cons (ss_if (st_cmp (vr_eq hr.u64) (se_var (i := 2)) se_int (by with_unfolding_all rfl))
  (sss_one (ss_ret se_non))
  sss_nil)
  (sss_cons (ss_if (st_cmp (vr_eq hr.u64) (se_var (i := 2)) se_int (by with_unfolding_all rfl))
  (sss_one (ss_ret se_str))
  sss_nil)
  (sss_one (ss_ret se_int))))))))))
theorem der_is_row {P : Program} {w : World} {K : PySem.W.Frag} {mg : Str → Option Value} {base : Heap} (T : Tp P w K mg base) {S_is_integer : FSpec} (mS_is_integer : MonoF S_is_integer) (O_is_integer : Ok P w K mg base "is_integer" ["value"] 1 S_is_integer) {f : Addr} (cdv : Value) (A : Around) (outer : List Env) (s : Shared) (H : Hp) (E : XK) (hr : RoomG 1 (A.deeper (PyProof.Rows.envOfC "is_row" (defScope s_is_row) s.heap.objs.size f cdv)))
    (σ₀ : L2.St) (h₀ : Hp) (xc : Addr → Value → Option Addr → Prop) : SSs (cxOf (L2.CX P w) P w K mg base ["value", "width", "entry"] "is_row" (defScope s_is_row) f cdv A outer s H E) ⟨[], σ₀, h₀, xc⟩ (fun cls d _ H => E cls d H) (defBody s_is_row) (w_is_row S_is_integer) :=
  (sss_cons (ss_if (st_not (st_tru (se_isi (T := .tup) (se_var (i := 0)) (by rfl) T.z_isinstance (by rfl) T.z_tuple (by with_unfolding_all rfl))))
  (sss_one (ss_ret se_bl))
  sss_nil)
  (sss_cons (ss_if (st_not (st_chain (vr_le hr.u0) (vr_le hr.u0) se_int (se_callB vl_len (by rfl) T.z_len (by with_unfolding_all rfl) (sa_cons (se_var (i := 0)) sa_nil)) (let ⟨_, h⟩ := T.c_WIDEST_ROW; se_globI (by rfl) h)))
  (sss_one (ss_ret se_bl))
  sss_nil)
  (sss_cons (ss_if (SPW.st (spw_and (st_cmp vr_isNotN (se_var (i := 1)) se_non (by with_unfolding_all rfl)) (spw_and1 (st_cmp (vr_ne hr.u64) (se_callB vl_len (by rfl) T.z_len (by with_unfolding_all rfl) (sa_cons (se_var (i := 0)) sa_nil)) (se_var (i := 1)) (by with_unfolding_all rfl)))))
  (sss_one (ss_ret se_bl))
  sss_nil)
  (sss_cons (ss_for poF rfl (si_it (se_var (i := 0))) (sg_name (i := 2) sc_is_row.nd rfl (by first | exact .inl rfl | exact .inr rfl)) (show ∀ i ∈ ([2] : List Nat), i ∉ ([] : List Nat) from by decide)
  (sss_one (ss_if (SPW.st (spw_or (st_not (st_tru (se_callO O_is_integer mS_is_integer tkF hr (by rfl) (sa_cons (se_frz (se_var (i := 2))) sa_nil)))) (spw_or1 (st_cmp (vr_lt hr.u0) (se_var (i := 2)) se_int (by with_unfolding_all rfl)))))
  (sss_one (ss_ret se_bl))
  sss_nil)))
  (sss_one (ss_ret se_bl))))))
theorem der_covers_some {P : Program} {w : World} {K : PySem.W.Frag} {mg : Str → Option Value} {base : Heap} (T : Tp P w K mg base) {S_entries_cover : FSpec} (mS_entries_cover : MonoF S_entries_cover) (O_entries_cover : Ok P w K mg base "entries_cover" ["big", "small"] 1 S_entries_cover) {f : Addr} (cdv : Value) (A : Around) (outer : List Env) (s : Shared) (H : Hp) (E : XK) (hr : RoomG 1 (A.deeper (PyProof.Rows.envOfC "covers_some" (defScope s_covers_some) s.heap.objs.size f cdv)))
    (σ₀ : L2.St) (h₀ : Hp) (xc : Addr → Value → Option Addr → Prop) : SSs (cxOf (L2.CX P w) P w K mg base ["row", "rows", "small"] "covers_some" (defScope s_covers_some) f cdv A outer s H E) ⟨[1], σ₀, h₀, xc⟩ (fun cls d _ H => E cls d H) (defBody s_covers_some) (w_covers_some S_entries_cover) :=
  (sss_cons (ss_for poF rfl (si_it (se_var (i := 1))) (sg_name (i := 2) sc_covers_some.nd rfl (by first | exact .inl rfl | exact .inr rfl)) (show ∀ i ∈ ([2] : List Nat), i ∉ ([1] : List Nat) from by decide)
  (sss_one (ss_if (st_tru (se_callO O_entries_cover mS_entries_cover tkF hr (by rfl) (sa_cons (se_frz (se_var (i := 0))) (sa_cons (se_frz (se_var (i := 2))) sa_nil))))
  (sss_one (ss_ret se_bl))
  sss_nil)))
  (sss_one (ss_ret se_bl)))
theorem der_is_high {P : Program} {w : World} {K : PySem.W.Frag} {mg : Str → Option Value} {base : Heap} (T : Tp P w K mg base) {S_is_integer : FSpec} (mS_is_integer : MonoF S_is_integer) (O_is_integer : Ok P w K mg base "is_integer" ["value"] 1 S_is_integer) {f : Addr} (cdv : Value) (A : Around) (outer : List Env) (s : Shared) (H : Hp) (E : XK) (hr : RoomG 1 (A.deeper (PyProof.Rows.envOfC "is_high" (defScope s_is_high) s.heap.objs.size f cdv)))
    (σ₀ : L2.St) (h₀ : Hp) (xc : Addr → Value → Option Addr → Prop) : SSs (cxOf (L2.CX P w) P w K mg base ["value", "width", "entry"] "is_high" (defScope s_is_high) f cdv A outer s H E) ⟨[], σ₀, h₀, xc⟩ (fun cls d _ H => E cls d H) (defBody s_is_high) (w_is_high S_is_integer) :=
  (sss_cons (ss_if (st_not (st_tru (se_isi (T := .tup) (se_var (i := 0)) (by rfl) T.z_isinstance (by rfl) T.z_tuple (by with_unfolding_all rfl))))
  (sss_one (ss_ret se_bl))
  sss_nil)
  (sss_cons (ss_if (st_not (st_chain (vr_le hr.u0) (vr_le hr.u0) se_int (se_callB vl_len (by rfl) T.z_len (by with_unfolding_all rfl) (sa_cons (se_var (i := 0)) sa_nil)) (let ⟨_, h⟩ := T.c_WIDEST_ROW; se_globI (by rfl) h)))
  (sss_one (ss_ret se_bl))
  sss_nil)
  (sss_cons (ss_if (SPW.st (spw_and (st_cmp vr_isNotN (se_var (i := 1)) se_non (by with_unfolding_all rfl)) (spw_and1 (st_cmp (vr_ne hr.u64) (se_callB vl_len (by rfl) T.z_len (by with_unfolding_all rfl) (sa_cons (se_var (i := 0)) sa_nil)) (se_var (i := 1)) (by with_unfolding_all rfl)))))
  (sss_one (ss_ret se_bl))
  sss_nil)
  (sss_cons (ss_for poF rfl (si_it (se_var (i := 0))) (sg_name (i := 2) sc_is_high.nd rfl (by first | exact .inl rfl | exact .inr rfl)) (show ∀ i ∈ ([2] : List Nat), i ∉ ([] : List Nat) from by decide)
  (sss_one (ss_if (SPW.st (spw_and (st_cmp vr_isNotN (se_var (i := 2)) se_non (by with_unfolding_all rfl)) (spw_and1 (SPW.st (spw_or (st_not (st_tru (se_callO O_is_integer mS_is_integer tkF hr (by rfl) (sa_cons (se_frz (se_var (i := 2))) sa_nil)))) (spw_or1 (st_cmp (vr_lt hr.u0) (se_var (i := 2)) se_int (by with_unfolding_all rfl))))))))
  (sss_one (ss_ret se_bl))
  sss_nil)))
  (sss_one (ss_ret se_bl))))))
theorem der_under_some {P : Program} {w : World} {K : PySem.W.Frag} {mg : Str → Option Value} {base : Heap} (T : Tp P w K mg base) {S_entries_under : FSpec} (mS_entries_under : MonoF S_entries_under) (O_entries_under : Ok P w K mg base "entries_under" ["one", "other"] 1 S_entries_under) {f : Addr} (cdv : Value) (A : Around) (outer : List Env) (s : Shared) (H : Hp) (E : XK) (hr : RoomG 1 (A.deeper (PyProof.Rows.envOfC "under_some" (defScope s_under_some) s.heap.objs.size f cdv)))
    (σ₀ : L2.St) (h₀ : Hp) (xc : Addr → Value → Option Addr → Prop) : SSs (cxOf (L2.CX P w) P w K mg base ["one", "highs", "high"] "under_some" (defScope s_under_some) f cdv A outer s H E) ⟨[1], σ₀, h₀, xc⟩ (fun cls d _ H => E cls d H) (defBody s_under_some) (w_under_some S_entries_under) :=
  (sss_cons (ss_for poF rfl (si_it (se_var (i := 1))) (sg_name (i := 2) sc_under_some.nd rfl (by first | exact .inl rfl | exact .inr rfl)) (show ∀ i ∈ ([2] : List Nat), i ∉ ([1] : List Nat) from by decide)
  (sss_one (ss_if (st_tru (se_callO O_entries_under mS_entries_under tkF hr (by rfl) (sa_cons (se_frz (se_var (i := 0))) (sa_cons (se_frz (se_var (i := 2))) sa_nil))))
  (sss_one (ss_ret se_bl))
  sss_nil)))
  (sss_one (ss_ret se_bl)))
theorem der_parts_outside {P : Program} {w : World} {K : PySem.W.Frag} {mg : Str → Option Value} {base : Heap} (T : Tp P w K mg base) {S_entries_under : FSpec} (mS_entries_under : MonoF S_entries_under) (O_entries_under : Ok P w K mg base "entries_under" ["one", "other"] 1 S_entries_under) {f : Addr} (cdv : Value) (A : Around) (outer : List Env) (s : Shared) (H : Hp) (E : XK) (hr : RoomG 1 (A.deeper (PyProof.Rows.envOfC "parts_outside" (defScope s_parts_outside) s.heap.objs.size f cdv)))
    (σ₀ : L2.St) (h₀ : Hp) (xc : Addr → Value → Option Addr → Prop) : SSs (cxOf (L2.CX P w) P w K mg base ["high", "row", "parts", "position", "entry"] "parts_outside" (defScope s_parts_outside) f cdv A outer s H E) ⟨[], σ₀, h₀, xc⟩ (fun cls d _ H => E cls d H) (defBody s_parts_outside) (w_parts_outside S_entries_under) :=
  (sss_cons (ss_if (st_not (st_tru (se_callO O_entries_under mS_entries_under tkF hr (by rfl) (sa_cons (se_frz (se_var (i := 1))) (sa_cons (se_frz (se_var (i := 0))) sa_nil)))))
  (sss_one (ss_ret (se_lst (sa_cons (se_var (i := 0)) sa_nil))))
  sss_nil)
  (sss_cons (ss_set (i := 2) (show 2 ∉ ([] : List Nat) from by decide) sc_parts_outside.nd rfl (by first | exact .inl rfl | exact .inr rfl) (se_lst sa_nil))
  (sss_cons (ss_for poF rfl (si_enum (by rfl) T.z_enumerate (sa_cons (se_var (i := 1)) sa_nil)) (sg_tup (is := [3, 4]) rfl (pgs_cons (pg_name (i := 3) sc_parts_outside.nd rfl (by first | exact .inl rfl | exact .inr rfl)) (pgs_cons (pg_name (i := 4) sc_parts_outside.nd rfl (by first | exact .inl rfl | exact .inr rfl)) pgs_nil))) (show ∀ i ∈ ([3, 4] : List Nat), i ∉ ([] : List Nat) from by decide)
  (sss_one (ss_if (st_cmp (vr_gt hr.u0) (se_var (i := 4)) se_int (by with_unfolding_all rfl))
  (sss_one (ss_app (i := 2) (se_op vr_add (se_op vr_add (se_sl (se_var (i := 0)) so_none (so_some (se_var (i := 3)))) (se_tup (sa_cons (se_op vr_sub (se_var (i := 4)) se_int) sa_nil))) (se_sl (se_var (i := 0)) (so_some (se_op vr_add (se_var (i := 3)) se_int)) so_none))))
  sss_nil)))
  (sss_one (ss_ret (se_var (i := 2)))))))
theorem der__law_is_high {P : Program} {w : World} {K : PySem.W.Frag} {mg : Str → Option Value} {base : Heap} (T : Tp P w K mg base) {S__law_is_integer : FSpec} (mS__law_is_integer : MonoF S__law_is_integer) (O__law_is_integer : Ok P w K mg base "_law_is_integer" ["_law_value"] 1 S__law_is_integer) {f : Addr} (cdv : Value) (A : Around) (outer : List Env) (s : Shared) (H : Hp) (E : XK) (hr : RoomG 1 (A.deeper (PyProof.Rows.envOfC "_law_is_high" (defScope s__law_is_high) s.heap.objs.size f cdv)))
    (σ₀ : L2.St) (h₀ : Hp) (xc : Addr → Value → Option Addr → Prop) : SSs (cxOf (L2.CX P w) P w K mg base ["_law_value", "_law_width", "_law_entry"] "_law_is_high" (defScope s__law_is_high) f cdv A outer s H E) ⟨[], σ₀, h₀, xc⟩ (fun cls d _ H => E cls d H) (defBody s__law_is_high) (w__law_is_high S__law_is_integer) :=
  (sss_cons (ss_if (SPW.st (spw_or (st_not (st_tru (se_isi (T := .tup) (se_var (i := 0)) (by rfl) T.z_isinstance (by rfl) T.z_tuple (by with_unfolding_all rfl)))) (spw_or1 (st_cmp (vr_ne hr.u64) (se_callB vl_len (by rfl) T.z_len (by with_unfolding_all rfl) (sa_cons (se_var (i := 0)) sa_nil)) (se_var (i := 1)) (by with_unfolding_all rfl)))))
  (sss_one (ss_ret se_bl))
  sss_nil)
  (sss_one (ss_ret (se_callB (vl_all rfl) (by rfl) T.z_all (by with_unfolding_all rfl) (sa_cons (se_lcV (own := [("_law_entry", 2)]) rfl sc__law_is_high.nd (show BlkOk ["_law_value", "_law_width", "_law_entry"] (defScope s__law_is_high) _ [("_law_entry", 2)] from ⟨rfl, by decide +kernel, by decide +kernel, by decide +kernel, by decide +kernel⟩) (si_it (se_var (i := 0))) (show ∀ i ∈ ([2] : List Nat), i ∉ ([] : List Nat) from by decide) (show ∀ i ∈ ([2] : List Nat), i ∈ ([2] : List Nat) from by decide) (fun _ _ _ _ _ => (sg_name (i := 2) sc__law_is_high.nd rfl (by first | exact .inl rfl | exact .inr rfl))) (fun _ _ _ _ _ => sts_nil) (fun _ _ _ _ _ => (se_or (se_cmp vr_isN (se_var (i := 2)) se_non (by with_unfolding_all rfl)) (se_one (se_and (se_callO O__law_is_integer mS__law_is_integer tk0 hr (by rfl) (sa_cons (se_frz (se_var (i := 2))) sa_nil)) (se_one (se_cmp (vr_ge hr.u0) (se_var (i := 2)) se_int (by with_unfolding_all rfl)))))))) sa_nil)))))
theorem der__law_levels {P : Program} {w : World} {K : PySem.W.Frag} {mg : Str → Option Value} {base : Heap} (T : Tp P w K mg base) {S__law_take : FSpec} (mS__law_take : MonoF S__law_take) (O__law_take : Ok P w K mg base "_law_take" ["_law_bag_here", "_law_many"] 1 S__law_take) {f : Addr} (cdv : Value) (A : Around) (outer : List Env) (s : Shared) (H : Hp) (E : XK) (hr : RoomG 1 (A.deeper (PyProof.Rows.envOfC "_law_levels" (defScope s__law_levels) s.heap.objs.size f cdv)))
    (σ₀ : L2.St) (h₀ : Hp) (xc : Addr → Value → Option Addr → Prop) : SSs (cxOf (L2.CX P w) P w K mg base ["_law_bag_here", "_law_width", "_law_levels_here", "_law_k", "_law_many", "_law_row", "_law_last", "_law_j"] "_law_levels" (defScope s__law_levels) f cdv A outer s H E) ⟨[0], σ₀, h₀, xc⟩ (fun cls d _ H => E cls d H) (defBody s__law_levels) (w__law_levels S__law_take) :=
  (sss_cons (ss_set (i := 2) (show 2 ∉ ([0] : List Nat) from by decide) sc__law_levels.nd rfl (by first | exact .inl rfl | exact .inr rfl) (se_lst sa_nil))
  (sss_cons (ss_for poF rfl (si_rng1 (by rfl) T.z_range (sa_cons (se_var (i := 1)) sa_nil)) (sg_name (i := 3) sc__law_levels.nd rfl (by first | exact .inl rfl | exact .inr rfl)) (show ∀ i ∈ ([3] : List Nat), i ∉ ([0] : List Nat) from by decide)
  (sss_cons (ss_set (i := 4) (show 4 ∉ ([0] : List Nat) from by decide) sc__law_levels.nd rfl (by first | exact .inl rfl | exact .inr rfl) (se_ix vi_ix (se_lst (sa_cons se_int (sa_cons se_int (sa_cons se_int (sa_cons se_int (sa_cons se_int (sa_cons se_int (sa_cons se_int (sa_cons se_int sa_nil))))))))) (se_op vr_sub (se_var (i := 1)) se_int)))
  (sss_cons (ss_set (i := 5) (show 5 ∉ ([0] : List Nat) from by decide) sc__law_levels.nd rfl (by first | exact .inl rfl | exact .inr rfl) (se_lst sa_nil))
  (sss_cons (ss_set (i := 6) (show 6 ∉ ([0] : List Nat) from by decide) sc__law_levels.nd rfl (by first | exact .inl rfl | exact .inr rfl) se_int)
  (sss_cons (ss_for poF rfl (si_rng1 (by rfl) T.z_range (sa_cons (se_var (i := 4)) sa_nil)) (sg_name (i := 7) sc__law_levels.nd rfl (by first | exact .inl rfl | exact .inr rfl)) (show ∀ i ∈ ([7] : List Nat), i ∉ ([0] : List Nat) from by decide)
  (sss_cons (ss_set (i := 6) (show 6 ∉ ([0] : List Nat) from by decide) sc__law_levels.nd rfl (by first | exact .inl rfl | exact .inr rfl) (se_op vr_add (se_op vr_add (se_var (i := 6)) se_int) (se_callO O__law_take mS__law_take tkF hr (by rfl) (sa_cons (se_var (i := 0)) (sa_cons se_int sa_nil)))))
  (sss_one (ss_app (i := 5) (se_var (i := 6))))))
  (sss_cons (ss_if (st_cmp (vr_eq hr.u64) (se_callO O__law_take mS__law_take tkF hr (by rfl) (sa_cons (se_var (i := 0)) (sa_cons se_int sa_nil))) se_int (by with_unfolding_all rfl))
  (sss_one (ss_setIx (i := 5) (se_op vr_add (se_op vr_add (se_ix vi_ix (se_var (i := 5)) (se_op vr_sub (se_var (i := 4)) se_int)) (se_op vr_pow se_int se_int)) (se_callO O__law_take mS__law_take tkF hr (by rfl) (sa_cons (se_var (i := 0)) (sa_cons (se_frz (se_op vr_mulT se_int (se_op vr_pow se_int se_int))) sa_nil)))) (se_op vr_sub (se_var (i := 4)) se_int)))
  sss_nil)
  (sss_one (ss_app (i := 2) (se_var (i := 5))))))))))
  (sss_one (ss_ret (se_var (i := 2))))))
theorem der__law_high {P : Program} {w : World} {K : PySem.W.Frag} {mg : Str → Option Value} {base : Heap} (T : Tp P w K mg base) {S__law_take : FSpec} (mS__law_take : MonoF S__law_take) (O__law_take : Ok P w K mg base "_law_take" ["_law_bag_here", "_law_many"] 1 S__law_take) {f : Addr} (cdv : Value) (A : Around) (outer : List Env) (s : Shared) (H : Hp) (E : XK) (hr : RoomG 1 (A.deeper (PyProof.Rows.envOfC "_law_high" (defScope s__law_high) s.heap.objs.size f cdv)))
    (σ₀ : L2.St) (h₀ : Hp) (xc : Addr → Value → Option Addr → Prop) : SSs (cxOf (L2.CX P w) P w K mg base ["_law_bag_here", "_law_levels_here", "_law_found", "_law_row", "_law_kind", "_law_level"] "_law_high" (defScope s__law_high) f cdv A outer s H E) ⟨[0], σ₀, h₀, xc⟩ (fun cls d _ H => E cls d H) (defBody s__law_high) (w__law_high S__law_take) :=
  (sss_cons (ss_set (i := 2) (show 2 ∉ ([0] : List Nat) from by decide) sc__law_high.nd rfl (by first | exact .inl rfl | exact .inr rfl) (se_lst sa_nil))
  (sss_cons (ss_for poF rfl (si_it (se_var (i := 1))) (sg_name (i := 3) sc__law_high.nd rfl (by first | exact .inl rfl | exact .inr rfl)) (show ∀ i ∈ ([3] : List Nat), i ∉ ([0] : List Nat) from by decide)
  (sss_cons (ss_set (i := 4) (show 4 ∉ ([0] : List Nat) from by decide) sc__law_high.nd rfl (by first | exact .inl rfl | exact .inr rfl) (se_callO O__law_take mS__law_take tkF hr (by rfl) (sa_cons (se_var (i := 0)) (sa_cons se_int sa_nil))))
  (sss_cons (ss_set (i := 5) (show 5 ∉ ([0] : List Nat) from by decide) sc__law_high.nd rfl (by first | exact .inl rfl | exact .inr rfl) (se_ix vi_ix (se_var (i := 3)) (se_callO O__law_take mS__law_take tkF hr (by rfl) (sa_cons (se_var (i := 0)) (sa_cons (se_frz (se_callB vl_len (by rfl) T.z_len (by with_unfolding_all rfl) (sa_cons (se_var (i := 3)) sa_nil))) sa_nil)))))
  (sss_one (ss_app (i := 2) (se_ix vi_ix (se_lst (sa_cons se_non (sa_cons se_non (sa_cons se_non (sa_cons (se_var (i := 5)) (sa_cons (se_op vr_sub (se_var (i := 5)) se_int) (sa_cons se_int sa_nil))))))) (se_var (i := 4))))))))
  (sss_one (ss_ret (se_callTy vl_tuple (by rfl) T.z_tuple (by with_unfolding_all rfl) (sa_cons (se_var (i := 2)) sa_nil))))))
theorem der__law_rows {P : Program} {w : World} {K : PySem.W.Frag} {mg : Str → Option Value} {base : Heap} (T : Tp P w K mg base) {S__law_take : FSpec} (mS__law_take : MonoF S__law_take) (O__law_take : Ok P w K mg base "_law_take" ["_law_bag_here", "_law_many"] 1 S__law_take) {f : Addr} (cdv : Value) (A : Around) (outer : List Env) (s : Shared) (H : Hp) (E : XK) (hr : RoomG 1 (A.deeper (PyProof.Rows.envOfC "_law_rows" (defScope s__law_rows) s.heap.objs.size f cdv)))
    (σ₀ : L2.St) (h₀ : Hp) (xc : Addr → Value → Option Addr → Prop) : SSs (cxOf (L2.CX P w) P w K mg base ["_law_bag_here", "_law_levels_here", "_law_rows_here", "_law_k", "_law_entries", "_law_place", "_law_row"] "_law_rows" (defScope s__law_rows) f cdv A outer s H E) ⟨[0], σ₀, h₀, xc⟩ (fun cls d _ H => E cls d H) (defBody s__law_rows) (w__law_rows S__law_take) :=
  (sss_cons (ss_set (i := 2) (show 2 ∉ ([0] : List Nat) from by decide) sc__law_rows.nd rfl (by first | exact .inl rfl | exact .inr rfl) (se_lst sa_nil))
  (sss_cons (ss_for poF rfl (si_rng1 (by rfl) T.z_range (sa_cons (se_callO O__law_take mS__law_take tkF hr (by rfl) (sa_cons (se_var (i := 0)) (sa_cons se_int sa_nil))) sa_nil)) (sg_name (i := 3) sc__law_rows.nd rfl (by first | exact .inl rfl | exact .inr rfl)) (show ∀ i ∈ ([3] : List Nat), i ∉ ([0] : List Nat) from by decide)
  (sss_cons (ss_if (SPW.st (spw_or (st_cmp (vr_eq hr.u64) (se_var (i := 3)) se_int (by with_unfolding_all rfl)) (spw_or1 (st_cmp (vr_eq hr.u64) (se_callO O__law_take mS__law_take tkF hr (by rfl) (sa_cons (se_var (i := 0)) (sa_cons se_int sa_nil))) se_int (by with_unfolding_all rfl)))))
  (sss_one (ss_setLcV (own := [("_law_row", 6)]) (i := 4) (show 4 ∉ ([0] : List Nat) from by decide) rfl sc__law_rows.nd rfl rfl (show BlkOk ["_law_bag_here", "_law_levels_here", "_law_rows_here", "_law_k", "_law_entries", "_law_place", "_law_row"] (defScope s__law_rows) _ [("_law_row", 6)] from ⟨rfl, by decide +kernel, by decide +kernel, by decide +kernel, by decide +kernel⟩) (si_it (se_var (i := 1))) (show ∀ i ∈ ([6] : List Nat), i ∉ ([0] : List Nat) from by decide) (show ∀ i ∈ ([6] : List Nat), i ∈ ([6] : List Nat) from by decide) (fun _ _ _ _ _ => (sg_name (i := 6) sc__law_rows.nd rfl (by first | exact .inl rfl | exact .inr rfl))) (fun _ _ _ _ _ => sts_nil) (fun _ _ _ _ _ => (se_ix vi_ix (se_op vr_add (se_lst (sa_cons se_int sa_nil)) (se_var (i := 6))) (se_callO O__law_take mS__law_take tk0 hr (by rfl) (sa_cons (se_var (i := 0)) (sa_cons (se_frz (se_op vr_add se_int (se_callB vl_len (by rfl) T.z_len (by with_unfolding_all rfl) (sa_cons (se_var (i := 6)) sa_nil)))) sa_nil)))))))
  (sss_cons (ss_set (i := 4) (show 4 ∉ ([0] : List Nat) from by decide) sc__law_rows.nd rfl (by first | exact .inl rfl | exact .inr rfl) (se_callTy vl_list (by rfl) T.z_list (by with_unfolding_all rfl) (sa_cons (se_ix vi_ix (se_var (i := 2)) (se_callO O__law_take mS__law_take tkF hr (by rfl) (sa_cons (se_var (i := 0)) (sa_cons (se_frz (se_var (i := 3))) sa_nil)))) sa_nil)))
  (sss_cons (ss_set (i := 5) (show 5 ∉ ([0] : List Nat) from by decide) sc__law_rows.nd rfl (by first | exact .inl rfl | exact .inr rfl) (se_callO O__law_take mS__law_take tkF hr (by rfl) (sa_cons (se_var (i := 0)) (sa_cons (se_frz (se_callB vl_len (by rfl) T.z_len (by with_unfolding_all rfl) (sa_cons (se_var (i := 1)) sa_nil))) sa_nil))))
  (sss_one (ss_setIx (i := 4) (se_ix vi_ix (se_op vr_add (se_lst (sa_cons se_int sa_nil)) (se_ix vi_ix (se_var (i := 1)) (se_var (i := 5)))) (se_callO O__law_take mS__law_take tkF hr (by rfl) (sa_cons (se_var (i := 0)) (sa_cons (se_frz (se_op vr_add se_int (se_callB vl_len (by rfl) T.z_len (by with_unfolding_all rfl) (sa_cons (se_ix vi_ix (se_var (i := 1)) (se_var (i := 5))) sa_nil)))) sa_nil)))) (se_var (i := 5)))))))
  (sss_one (ss_app (i := 2) (se_callTy vl_tuple (by rfl) T.z_tuple (by with_unfolding_all rfl) (sa_cons (se_var (i := 4)) sa_nil))))))
  (sss_one (ss_ret (se_var (i := 2))))))
theorem der__law_drawn {P : Program} {w : World} {K : PySem.W.Frag} {mg : Str → Option Value} {base : Heap} (T : Tp P w K mg base) {S__law_take : FSpec} (mS__law_take : MonoF S__law_take) (O__law_take : Ok P w K mg base "_law_take" ["_law_bag_here", "_law_many"] 1 S__law_take) {f : Addr} (cdv : Value) (A : Around) (outer : List Env) (s : Shared) (H : Hp) (E : XK) (hr : RoomG 1 (A.deeper (PyProof.Rows.envOfC "_law_drawn" (defScope s__law_drawn) s.heap.objs.size f cdv)))
    (σ₀ : L2.St) (h₀ : Hp) (xc : Addr → Value → Option Addr → Prop) : SSs (cxOf (L2.CX P w) P w K mg base ["_law_bag_here", "_law_levels_here", "_law_found", "_law_row", "_law_level", "_law_kind", "_law_step"] "_law_drawn" (defScope s__law_drawn) f cdv A outer s H E) ⟨[0], σ₀, h₀, xc⟩ (fun cls d _ H => E cls d H) (defBody s__law_drawn) (w__law_drawn S__law_take) :=
  (sss_cons (ss_set (i := 2) (show 2 ∉ ([0] : List Nat) from by decide) sc__law_drawn.nd rfl (by first | exact .inl rfl | exact .inr rfl) (se_lst sa_nil))
  (sss_cons (ss_for poF rfl (si_it (se_var (i := 1))) (sg_name (i := 3) sc__law_drawn.nd rfl (by first | exact .inl rfl | exact .inr rfl)) (show ∀ i ∈ ([3] : List Nat), i ∉ ([0] : List Nat) from by decide)
  (sss_cons (ss_set (i := 4) (show 4 ∉ ([0] : List Nat) from by decide) sc__law_drawn.nd rfl (by first | exact .inl rfl | exact .inr rfl) (se_ix vi_ix (se_var (i := 3)) (se_callO O__law_take mS__law_take tkF hr (by rfl) (sa_cons (se_var (i := 0)) (sa_cons (se_frz (se_callB vl_len (by rfl) T.z_len (by with_unfolding_all rfl) (sa_cons (se_var (i := 3)) sa_nil))) sa_nil)))))
  (sss_cons (ss_set (i := 5) (show 5 ∉ ([0] : List Nat) from by decide) sc__law_drawn.nd rfl (by first | exact .inl rfl | exact .inr rfl) (se_callO O__law_take mS__law_take tkF hr (by rfl) (sa_cons (se_var (i := 0)) (sa_cons se_int sa_nil))))
  (sss_cons (ss_set (i := 6) (show 6 ∉ ([0] : List Nat) from by decide) sc__law_drawn.nd rfl (by first | exact .inl rfl | exact .inr rfl) (se_callO O__law_take mS__law_take tkF hr (by rfl) (sa_cons (se_var (i := 0)) (sa_cons se_int sa_nil))))
  (sss_one (ss_if (st_cmp (vr_eq hr.u64) (se_var (i := 5)) se_int (by with_unfolding_all rfl))
  (sss_one (ss_app (i := 2) (se_callO O__law_take mS__law_take tkF hr (by rfl) (sa_cons (se_var (i := 0)) (sa_cons (se_frz (se_op vr_pow se_int se_int)) sa_nil)))))
  (sss_one (ss_app (i := 2) (se_callB (vl_max2 rfl) (by rfl) T.z_max (by with_unfolding_all rfl) (sa_cons (se_op vr_add (se_var (i := 4)) (se_ix vi_ix (se_lst (sa_cons (se_var (i := 6)) (sa_cons (se_op vr_sub se_int (se_var (i := 6))) (sa_cons se_int (sa_cons (se_op vr_sub se_int (se_var (i := 4))) sa_nil))))) (se_var (i := 5)))) (sa_cons se_int sa_nil)))))))))))
  (sss_one (ss_ret (se_callTy vl_tuple (by rfl) T.z_tuple (by with_unfolding_all rfl) (sa_cons (se_var (i := 2)) sa_nil))))))
theorem der__law_good {P : Program} {w : World} {K : PySem.W.Frag} {mg : Str → Option Value} {base : Heap} (T : Tp P w K mg base) {S__law_below S__law_keeps_out : FSpec} (mS__law_below : MonoF S__law_below) (mS__law_keeps_out : MonoF S__law_keeps_out) (O__law_below : Ok P w K mg base "_law_below" ["_law_one", "_law_other"] 1 S__law_below) (O__law_keeps_out : Ok P w K mg base "_law_keeps_out" ["_law_high_here", "_law_row"] 1 S__law_keeps_out) {f : Addr} (cdv : Value) (A : Around) (outer : List Env) (s : Shared) (H : Hp) (E : XK) (hr : RoomG 1 (A.deeper (PyProof.Rows.envOfC "_law_good" (defScope s__law_good) s.heap.objs.size f cdv)))
    (σ₀ : L2.St) (h₀ : Hp) (xc : Addr → Value → Option Addr → Prop) : SSs (cxOf (L2.CX P w) P w K mg base ["_law_told", "_law_high_here", "_law_rows_here", "_law_row", "_law_k", "_law_raised"] "_law_good" (defScope s__law_good) f cdv A outer s H E) ⟨[], σ₀, h₀, xc⟩ (fun cls d _ H => E cls d H) (defBody s__law_good) (w__law_good S__law_below S__law_keeps_out) :=
  (sss_cons (ss_if (st_not (st_tru (se_callO O__law_below mS__law_below tkF hr (by rfl) (sa_cons (se_frz (se_var (i := 0))) (sa_cons (se_frz (se_var (i := 1))) sa_nil)))))
  (sss_one (ss_ret se_bl))
  sss_nil)
  (sss_cons (ss_for poF rfl (si_it (se_var (i := 2))) (sg_name (i := 3) sc__law_good.nd rfl (by first | exact .inl rfl | exact .inr rfl)) (show ∀ i ∈ ([3] : List Nat), i ∉ ([] : List Nat) from by decide)
  (sss_one (ss_if (st_not (st_tru (se_callO O__law_keeps_out mS__law_keeps_out tkF hr (by rfl) (sa_cons (se_frz (se_var (i := 0))) (sa_cons (se_frz (se_var (i := 3))) sa_nil)))))
  (sss_one (ss_ret se_bl))
  sss_nil)))
  (sss_cons (ss_for poF rfl (si_rng1 (by rfl) T.z_range (sa_cons (se_callB vl_len (by rfl) T.z_len (by with_unfolding_all rfl) (sa_cons (se_var (i := 1)) sa_nil)) sa_nil)) (sg_name (i := 4) sc__law_good.nd rfl (by first | exact .inl rfl | exact .inr rfl)) (show ∀ i ∈ ([4] : List Nat), i ∉ ([] : List Nat) from by decide)
  (sss_one (ss_if (SPW.st (spw_and (st_cmp vr_isNotN (se_ix vi_ix (se_var (i := 0)) (se_var (i := 4))) se_non (by with_unfolding_all rfl)) (spw_and1 (st_cmp (vr_ne hr.u64) (se_ix vi_ix (se_var (i := 0)) (se_var (i := 4))) (se_ix vi_ix (se_var (i := 1)) (se_var (i := 4))) (by with_unfolding_all rfl)))))
  (sss_cons (ss_set (i := 5) (show 5 ∉ ([] : List Nat) from by decide) sc__law_good.nd rfl (by first | exact .inl rfl | exact .inr rfl) (se_op vr_add (se_op vr_add (se_sl (se_var (i := 0)) so_none (so_some (se_var (i := 4)))) (se_tup (sa_cons (se_op vr_add (se_ix vi_ix (se_var (i := 0)) (se_var (i := 4))) se_int) sa_nil))) (se_sl (se_var (i := 0)) (so_some (se_op vr_add (se_var (i := 4)) se_int)) so_none)))
  (sss_one (ss_if (st_tru (se_callB (vl_all rfl) (by rfl) T.z_all (by with_unfolding_all rfl) (sa_cons (se_lcV (own := [("_law_row", 3)]) rfl sc__law_good.nd (show BlkOk ["_law_told", "_law_high_here", "_law_rows_here", "_law_row", "_law_k", "_law_raised"] (defScope s__law_good) _ [("_law_row", 3)] from ⟨rfl, by decide +kernel, by decide +kernel, by decide +kernel, by decide +kernel⟩) (si_it (se_var (i := 2))) (show ∀ i ∈ ([3] : List Nat), i ∉ ([] : List Nat) from by decide) (show ∀ i ∈ ([3] : List Nat), i ∈ ([3] : List Nat) from by decide) (fun _ _ _ _ _ => (sg_name (i := 3) sc__law_good.nd rfl (by first | exact .inl rfl | exact .inr rfl))) (fun _ _ _ _ _ => sts_nil) (fun _ _ _ _ _ => (se_callO O__law_keeps_out mS__law_keeps_out tk0 hr (by rfl) (sa_cons (se_frz (se_var (i := 5))) (sa_cons (se_frz (se_var (i := 3))) sa_nil))))) sa_nil)))
  (sss_one (ss_ret se_bl))
  sss_nil)))
  sss_nil)))
  (sss_one (ss_ret se_bl)))))
theorem der__law_cube {P : Program} {w : World} {K : PySem.W.Frag} {mg : Str → Option Value} {base : Heap} (T : Tp P w K mg base) {S__law_values : FSpec} (mS__law_values : MonoF S__law_values) (O__law_values : Ok P w K mg base "_law_values" ["_law_levels_here", "_law_high_here", "_law_k"] 1 S__law_values) {f : Addr} (cdv : Value) (A : Around) (outer : List Env) (s : Shared) (H : Hp) (E : XK) (hr : RoomG 1 (A.deeper (PyProof.Rows.envOfC "_law_cube" (defScope s__law_cube) s.heap.objs.size f cdv)))
    (σ₀ : L2.St) (h₀ : Hp) (xc : Addr → Value → Option Addr → Prop) : SSs (cxOf (L2.CX P w) P w K mg base ["_law_levels_here", "_law_high_here", "_law_cube_here", "_law_k", "_law_found", "_law_row", "_law_entry"] "_law_cube" (defScope s__law_cube) f cdv A outer s H E) ⟨[], σ₀, h₀, xc⟩ (fun cls d _ H => E cls d H) (defBody s__law_cube) (w__law_cube S__law_values) :=
  (sss_cons (ss_set (i := 2) (show 2 ∉ ([] : List Nat) from by decide) sc__law_cube.nd rfl (by first | exact .inl rfl | exact .inr rfl) (se_lst (sa_cons (se_tup sa_nil) sa_nil)))
  (sss_cons (ss_for poF rfl (si_rng1 (by rfl) T.z_range (sa_cons (se_callB vl_len (by rfl) T.z_len (by with_unfolding_all rfl) (sa_cons (se_var (i := 0)) sa_nil)) sa_nil)) (sg_name (i := 3) sc__law_cube.nd rfl (by first | exact .inl rfl | exact .inr rfl)) (show ∀ i ∈ ([3] : List Nat), i ∉ ([] : List Nat) from by decide)
  (sss_cons (ss_set (i := 4) (show 4 ∉ ([] : List Nat) from by decide) sc__law_cube.nd rfl (by first | exact .inl rfl | exact .inr rfl) (se_lst sa_nil))
  (sss_cons (ss_for poF rfl (si_it (se_var (i := 2))) (sg_name (i := 5) sc__law_cube.nd rfl (by first | exact .inl rfl | exact .inr rfl)) (show ∀ i ∈ ([5] : List Nat), i ∉ ([] : List Nat) from by decide)
  (sss_one (ss_for poF rfl (si_it (se_callO O__law_values mS__law_values tkF hr (by rfl) (sa_cons (se_frz (se_var (i := 0))) (sa_cons (se_frz (se_var (i := 1))) (sa_cons (se_frz (se_var (i := 3))) sa_nil))))) (sg_name (i := 6) sc__law_cube.nd rfl (by first | exact .inl rfl | exact .inr rfl)) (show ∀ i ∈ ([6] : List Nat), i ∉ ([] : List Nat) from by decide)
  (sss_one (ss_app (i := 4) (se_op vr_add (se_var (i := 5)) (se_tup (sa_cons (se_var (i := 6)) sa_nil))))))))
  (sss_one (ss_set (i := 2) (show 2 ∉ ([] : List Nat) from by decide) sc__law_cube.nd rfl (by first | exact .inl rfl | exact .inr rfl) (se_var (i := 4)))))))
  (sss_one (ss_ret (se_var (i := 2))))))
theorem der__law_outside {P : Program} {w : World} {K : PySem.W.Frag} {mg : Str → Option Value} {base : Heap} (T : Tp P w K mg base) {S__law_below S__law_over : FSpec} (mS__law_below : MonoF S__law_below) (mS__law_over : MonoF S__law_over) (O__law_below : Ok P w K mg base "_law_below" ["_law_one", "_law_other"] 1 S__law_below) (O__law_over : Ok P w K mg base "_law_over" ["_law_big", "_law_small"] 1 S__law_over) {f : Addr} (cdv : Value) (A : Around) (outer : List Env) (s : Shared) (H : Hp) (E : XK) (hr : RoomG 1 (A.deeper (PyProof.Rows.envOfC "_law_outside" (defScope s__law_outside) s.heap.objs.size f cdv)))
    (σ₀ : L2.St) (h₀ : Hp) (xc : Addr → Value → Option Addr → Prop) : SSs (cxOf (L2.CX P w) P w K mg base ["_law_told", "_law_high_here", "_law_rows_here", "_law_row", "_law_due", "_law_small", "_law_one"] "_law_outside" (defScope s__law_outside) f cdv A outer s H E) ⟨[], σ₀, h₀, xc⟩ (fun cls d _ H => E cls d H) (defBody s__law_outside) (w__law_outside S__law_below S__law_over) :=
  (sss_cons (ss_set (i := 4) (show 4 ∉ ([] : List Nat) from by decide) sc__law_outside.nd rfl (by first | exact .inl rfl | exact .inr rfl) (se_callO O__law_below mS__law_below tkF hr (by rfl) (sa_cons (se_frz (se_var (i := 3))) (sa_cons (se_frz (se_var (i := 1))) sa_nil))))
  (sss_cons (ss_for poF rfl (si_it (se_var (i := 2))) (sg_name (i := 5) sc__law_outside.nd rfl (by first | exact .inl rfl | exact .inr rfl)) (show ∀ i ∈ ([5] : List Nat), i ∉ ([] : List Nat) from by decide)
  (sss_one (ss_if (SPW.st (spw_and (st_tru (se_var (i := 4))) (spw_and1 (st_tru (se_callO O__law_over mS__law_over tkF hr (by rfl) (sa_cons (se_frz (se_var (i := 3))) (sa_cons (se_frz (se_var (i := 5))) sa_nil)))))))
  (sss_one (ss_set (i := 4) (show 4 ∉ ([] : List Nat) from by decide) sc__law_outside.nd rfl (by first | exact .inl rfl | exact .inr rfl) se_bl))
  sss_nil)))
  (sss_cons (ss_for poF rfl (si_it (se_var (i := 0))) (sg_name (i := 6) sc__law_outside.nd rfl (by first | exact .inl rfl | exact .inr rfl)) (show ∀ i ∈ ([6] : List Nat), i ∉ ([] : List Nat) from by decide)
  (sss_one (ss_if (st_tru (se_callO O__law_below mS__law_below tkF hr (by rfl) (sa_cons (se_frz (se_var (i := 3))) (sa_cons (se_frz (se_var (i := 6))) sa_nil))))
  (sss_one (ss_ret (se_var (i := 4))))
  sss_nil)))
  (sss_one (ss_ret (se_not (se_var (i := 4))))))))
theorem der_check_row {P : Program} {w : World} {K : PySem.W.Frag} {mg : Str → Option Value} {base : Heap} (T : Tp P w K mg base) {S_is_row : FSpec} (mS_is_row : MonoF S_is_row) (O_is_row : Ok P w K mg base "is_row" ["value", "width"] 2 S_is_row) {f : Addr} (cdv : Value) (A : Around) (outer : List Env) (s : Shared) (H : Hp) (E : XK) (hr : RoomG 2 (A.deeper (PyProof.Rows.envOfC "check_row" (defScope s_check_row) s.heap.objs.size f cdv)))
    (σ₀ : L2.St) (h₀ : Hp) (xc : Addr → Value → Option Addr → Prop) : SSs (cxOf (L2.CX P w) P w K mg base ["row", "width"] "check_row" (defScope s_check_row) f cdv A outer s H E) ⟨[], σ₀, h₀, xc⟩ (fun cls d _ H => E cls d H) (defBody s_check_row) (w_check_row S_is_row) :=
  (sss_one (ss_if (st_not (st_tru (se_callO O_is_row mS_is_row tkF hr (by rfl) (sa_cons (se_frz (se_var (i := 0))) (sa_cons (se_frz (se_var (i := 1))) sa_nil)))))
  (sss_one (ss_raise1 T.x_InvalidRow.xc rfl tkF (hr.rm.mono (by decide)) (by rfl) (sa_cons (se_var (i := 0)) sa_nil)))
  sss_nil))
theorem der_least_among {P : Program} {w : World} {K : PySem.W.Frag} {mg : Str → Option Value} {base : Heap} (T : Tp P w K mg base) {S_covers_some : FSpec} (mS_covers_some : MonoF S_covers_some) (O_covers_some : Ok P w K mg base "covers_some" ["row", "rows"] 2 S_covers_some) {f : Addr} (cdv : Value) (A : Around) (outer : List Env) (s : Shared) (H : Hp) (E : XK) (hr : RoomG 2 (A.deeper (PyProof.Rows.envOfC "least_among" (defScope s_least_among) s.heap.objs.size f cdv)))
    (σ₀ : L2.St) (h₀ : Hp) (xc : Addr → Value → Option Addr → Prop) : SSs (cxOf (L2.CX P w) P w K mg base ["rows", "kept", "row"] "least_among" (defScope s_least_among) f cdv A outer s H E) ⟨[], σ₀, h₀, xc⟩ (fun cls d _ H => E cls d H) (defBody s_least_among) (w_least_among S_covers_some) :=
  (sss_cons (ss_set (i := 1) (show 1 ∉ ([] : List Nat) from by decide) sc_least_among.nd rfl (by first | exact .inl rfl | exact .inr rfl) (se_lst sa_nil))
  (sss_cons (ss_for poF rfl (si_it (se_sortT (se_var (i := 0)) rfl hr.u64 (by rfl) T.z_sorted (by rfl) T.z_set)) (sg_name (i := 2) sc_least_among.nd rfl (by first | exact .inl rfl | exact .inr rfl)) (show ∀ i ∈ ([2] : List Nat), i ∉ ([] : List Nat) from by decide)
  (sss_one (ss_if (st_not (st_tru (se_callO O_covers_some mS_covers_some tkF hr (by rfl) (sa_cons (se_frz (se_var (i := 2))) (sa_cons (se_var (i := 1)) sa_nil)))))
  (sss_one (ss_app (i := 1) (se_var (i := 2))))
  sss_nil)))
  (sss_one (ss_ret (se_var (i := 1))))))
theorem der_check_high {P : Program} {w : World} {K : PySem.W.Frag} {mg : Str → Option Value} {base : Heap} (T : Tp P w K mg base) {S_is_high : FSpec} (mS_is_high : MonoF S_is_high) (O_is_high : Ok P w K mg base "is_high" ["value", "width"] 2 S_is_high) {f : Addr} (cdv : Value) (A : Around) (outer : List Env) (s : Shared) (H : Hp) (E : XK) (hr : RoomG 2 (A.deeper (PyProof.Rows.envOfC "check_high" (defScope s_check_high) s.heap.objs.size f cdv)))
    (σ₀ : L2.St) (h₀ : Hp) (xc : Addr → Value → Option Addr → Prop) : SSs (cxOf (L2.CX P w) P w K mg base ["high", "width"] "check_high" (defScope s_check_high) f cdv A outer s H E) ⟨[], σ₀, h₀, xc⟩ (fun cls d _ H => E cls d H) (defBody s_check_high) (w_check_high S_is_high) :=
  (sss_one (ss_if (st_not (st_tru (se_callO O_is_high mS_is_high tkF hr (by rfl) (sa_cons (se_frz (se_var (i := 0))) (sa_cons (se_frz (se_var (i := 1))) sa_nil)))))
  (sss_one (ss_raise1 T.x_InvalidRow.xc rfl tkF (hr.rm.mono (by decide)) (by rfl) (sa_cons (se_var (i := 0)) sa_nil)))
  sss_nil))
theorem der__law_shaped {P : Program} {w : World} {K : PySem.W.Frag} {mg : Str → Option Value} {base : Heap} (T : Tp P w K mg base) {S__law_is_high S__law_key S__law_good : FSpec} (mS__law_is_high : MonoF S__law_is_high) (mS__law_key : MonoF S__law_key) (mS__law_good : MonoF S__law_good) (O__law_is_high : Ok P w K mg base "_law_is_high" ["_law_value", "_law_width"] 2 S__law_is_high) (O__law_key : Ok P w K mg base "_law_key" ["_law_high_here"] 1 S__law_key) (O__law_good : Ok P w K mg base "_law_good" ["_law_told", "_law_high_here", "_law_rows_here"] 2 S__law_good) {f : Addr} (cdv : Value) (A : Around) (outer : List Env) (s : Shared) (H : Hp) (E : XK) (hr : RoomG 2 (A.deeper (PyProof.Rows.envOfC "_law_shaped" (defScope s__law_shaped) s.heap.objs.size f cdv)))
    (σ₀ : L2.St) (h₀ : Hp) (xc : Addr → Value → Option Addr → Prop) : SSs (cxOf (L2.CX P w) P w K mg base ["_law_told", "_law_high_here", "_law_rows_here", "_law_one", "_law_k"] "_law_shaped" (defScope s__law_shaped) f cdv A outer s H E) ⟨[], σ₀, h₀, xc⟩ (fun cls d _ H => E cls d H) (defBody s__law_shaped) (w__law_shaped S__law_is_high S__law_key S__law_good) :=
  (sss_cons (ss_if (SPW.st (spw_or (st_not (st_tru (se_isi (T := .lst) (se_var (i := 0)) (by rfl) T.z_isinstance (by rfl) T.z_list (by with_unfolding_all rfl)))) (spw_or1 (st_not (st_tru (se_callB (vl_all rfl) (by rfl) T.z_all (by with_unfolding_all rfl) (sa_cons (se_lcV (own := [("_law_one", 3)]) rfl sc__law_shaped.nd (show BlkOk ["_law_told", "_law_high_here", "_law_rows_here", "_law_one", "_law_k"] (defScope s__law_shaped) _ [("_law_one", 3)] from ⟨rfl, by decide +kernel, by decide +kernel, by decide +kernel, by decide +kernel⟩) (si_it (se_var (i := 0))) (show ∀ i ∈ ([3] : List Nat), i ∉ ([] : List Nat) from by decide) (show ∀ i ∈ ([3] : List Nat), i ∈ ([3] : List Nat) from by decide) (fun _ _ _ _ _ => (sg_name (i := 3) sc__law_shaped.nd rfl (by first | exact .inl rfl | exact .inr rfl))) (fun _ _ _ _ _ => sts_nil) (fun _ _ _ _ _ => (se_callO O__law_is_high mS__law_is_high tk0 hr (by rfl) (sa_cons (se_frz (se_var (i := 3))) (sa_cons (se_frz (se_callB vl_len (by rfl) T.z_len (by with_unfolding_all rfl) (sa_cons (se_var (i := 1)) sa_nil))) sa_nil))))) sa_nil)))))))
  (sss_one (ss_ret se_bl))
  sss_nil)
  (sss_cons (ss_for poF rfl (si_rng2 (by rfl) T.z_range (sa_cons se_int (sa_cons (se_callB vl_len (by rfl) T.z_len (by with_unfolding_all rfl) (sa_cons (se_var (i := 0)) sa_nil)) sa_nil))) (sg_name (i := 4) sc__law_shaped.nd rfl (by first | exact .inl rfl | exact .inr rfl)) (show ∀ i ∈ ([4] : List Nat), i ∉ ([] : List Nat) from by decide)
  (sss_one (ss_if (st_cmp (vr_geK hr.u9) (se_callO O__law_key mS__law_key tkF hr (by rfl) (sa_cons (se_frz (se_ix vi_ix (se_var (i := 0)) (se_op vr_sub (se_var (i := 4)) se_int))) sa_nil)) (se_callO O__law_key mS__law_key tkF hr (by rfl) (sa_cons (se_frz (se_ix vi_ix (se_var (i := 0)) (se_var (i := 4)))) sa_nil)) (by with_unfolding_all rfl))
  (sss_one (ss_ret se_bl))
  sss_nil)))
  (sss_one (ss_ret (se_callB (vl_all rfl) (by rfl) T.z_all (by with_unfolding_all rfl) (sa_cons (se_lcV (own := [("_law_one", 3)]) rfl sc__law_shaped.nd (show BlkOk ["_law_told", "_law_high_here", "_law_rows_here", "_law_one", "_law_k"] (defScope s__law_shaped) _ [("_law_one", 3)] from ⟨rfl, by decide +kernel, by decide +kernel, by decide +kernel, by decide +kernel⟩) (si_it (se_var (i := 0))) (show ∀ i ∈ ([3] : List Nat), i ∉ ([] : List Nat) from by decide) (show ∀ i ∈ ([3] : List Nat), i ∈ ([3] : List Nat) from by decide) (fun _ _ _ _ _ => (sg_name (i := 3) sc__law_shaped.nd rfl (by first | exact .inl rfl | exact .inr rfl))) (fun _ _ _ _ _ => sts_nil) (fun _ _ _ _ _ => (se_callO O__law_good mS__law_good tk0 hr (by rfl) (sa_cons (se_frz (se_var (i := 3))) (sa_cons (se_frz (se_var (i := 1))) (sa_cons (se_frz (se_var (i := 2))) sa_nil)))))) sa_nil))))))
theorem der_check_rows {P : Program} {w : World} {K : PySem.W.Frag} {mg : Str → Option Value} {base : Heap} (T : Tp P w K mg base) {S_check_row : FSpec} (mS_check_row : MonoF S_check_row) (O_check_row : Ok P w K mg base "check_row" ["row", "width"] 3 S_check_row) {f : Addr} (cdv : Value) (A : Around) (outer : List Env) (s : Shared) (H : Hp) (E : XK) (hr : RoomG 3 (A.deeper (PyProof.Rows.envOfC "check_rows" (defScope s_check_rows) s.heap.objs.size f cdv)))
    (σ₀ : L2.St) (h₀ : Hp) (xc : Addr → Value → Option Addr → Prop) : SSs (cxOf (L2.CX P w) P w K mg base ["rows", "width", "row"] "check_rows" (defScope s_check_rows) f cdv A outer s H E) ⟨[], σ₀, h₀, xc⟩ (fun cls d _ H => E cls d H) (defBody s_check_rows) (w_check_rows S_check_row) :=
  (sss_cons (ss_set (i := 1) (show 1 ∉ ([] : List Nat) from by decide) sc_check_rows.nd rfl (by first | exact .inl rfl | exact .inr rfl) se_non)
  (sss_one (ss_for poF rfl (si_it (se_var (i := 0))) (sg_name (i := 2) sc_check_rows.nd rfl (by first | exact .inl rfl | exact .inr rfl)) (show ∀ i ∈ ([2] : List Nat), i ∉ ([] : List Nat) from by decide)
  (sss_cons (ss_expr (se_callO O_check_row mS_check_row tkF hr (by rfl) (sa_cons (se_frz (se_var (i := 2))) (sa_cons (se_frz (se_var (i := 1))) sa_nil))))
  (sss_one (ss_set (i := 1) (show 1 ∉ ([] : List Nat) from by decide) sc_check_rows.nd rfl (by first | exact .inl rfl | exact .inr rfl) (se_callB vl_len (by rfl) T.z_len (by with_unfolding_all rfl) (sa_cons (se_var (i := 2)) sa_nil))))))))
theorem der_greatest_among {P : Program} {w : World} {K : PySem.W.Frag} {mg : Str → Option Value} {base : Heap} (T : Tp P w K mg base) {S_high_key S_under_some : FSpec} (mS_high_key : MonoF S_high_key) (mS_under_some : MonoF S_under_some) (O_high_key : Ok P w K mg base "high_key" ["high"] 1 S_high_key) (O_under_some : Ok P w K mg base "under_some" ["one", "highs"] 2 S_under_some) {f : Addr} (cdv : Value) (A : Around) (outer : List Env) (s : Shared) (H : Hp) (E : XK) (hr : RoomG 3 (A.deeper (PyProof.Rows.envOfC "greatest_among" (defScope s_greatest_among) s.heap.objs.size f cdv)))
    (σ₀ : L2.St) (h₀ : Hp) (xc : Addr → Value → Option Addr → Prop) : SSs (cxOf (L2.CX P w) P w K mg base ["highs", "limit", "distinct", "high", "kept"] "greatest_among" (defScope s_greatest_among) f cdv A outer s H E) ⟨[], σ₀, h₀, xc⟩ (fun cls d _ H => E cls d H) (defBody s_greatest_among) (w_greatest_among S_high_key S_under_some) :=
  (sss_cons (ss_set (i := 2) (show 2 ∉ ([] : List Nat) from by decide) sc_greatest_among.nd rfl (by first | exact .inl rfl | exact .inr rfl) se_dct0)
  (sss_cons (ss_for poF rfl (si_it (se_var (i := 0))) (sg_name (i := 3) sc_greatest_among.nd rfl (by first | exact .inl rfl | exact .inr rfl)) (show ∀ i ∈ ([3] : List Nat), i ∉ ([] : List Nat) from by decide)
  (sss_one (ss_setKey (i := 2) hr.u9 se_bl (se_var (i := 3)))))
  (sss_cons (ss_set (i := 4) (show 4 ∉ ([] : List Nat) from by decide) sc_greatest_among.nd rfl (by first | exact .inl rfl | exact .inr rfl) (se_lst sa_nil))
  (sss_cons (ss_for poF rfl (si_it (se_sortK O_high_key mS_high_key hr (se_callTy (vl_listD rfl) (by rfl) T.z_list (by with_unfolding_all rfl) (sa_cons (se_var (i := 2)) sa_nil)) (by rfl) (by rfl) T.z_sorted)) (sg_name (i := 3) sc_greatest_among.nd rfl (by first | exact .inl rfl | exact .inr rfl)) (show ∀ i ∈ ([3] : List Nat), i ∉ ([] : List Nat) from by decide)
  (sss_one (ss_if (st_not (st_tru (se_callO O_under_some mS_under_some tkF hr (by rfl) (sa_cons (se_frz (se_var (i := 3))) (sa_cons (se_var (i := 4)) sa_nil)))))
  (sss_cons (ss_app (i := 4) (se_var (i := 3)))
  (sss_one (ss_if (SPW.st (spw_and (st_cmp vr_isNotN (se_var (i := 1)) se_non (by with_unfolding_all rfl)) (spw_and1 (st_cmp (vr_gt hr.u0) (se_callB vl_len (by rfl) T.z_len (by with_unfolding_all rfl) (sa_cons (se_var (i := 4)) sa_nil)) (se_var (i := 1)) (by with_unfolding_all rfl)))))
  (sss_one ss_never)
  sss_nil)))
  sss_nil)))
  (sss_one (ss_ret (se_revS (se_var (i := 4)))))))))
theorem der_least_of {P : Program} {w : World} {K : PySem.W.Frag} {mg : Str → Option Value} {base : Heap} (T : Tp P w K mg base) {S_check_rows S_least_among : FSpec} (mS_check_rows : MonoF S_check_rows) (mS_least_among : MonoF S_least_among) (O_check_rows : Ok P w K mg base "check_rows" ["rows"] 4 S_check_rows) (O_least_among : Ok P w K mg base "least_among" ["rows"] 3 S_least_among) {f : Addr} (cdv : Value) (A : Around) (outer : List Env) (s : Shared) (H : Hp) (E : XK) (hr : RoomG 4 (A.deeper (PyProof.Rows.envOfC "least_of" (defScope s_least_of) s.heap.objs.size f cdv)))
    (σ₀ : L2.St) (h₀ : Hp) (xc : Addr → Value → Option Addr → Prop) : SSs (cxOf (L2.CX P w) P w K mg base ["rows"] "least_of" (defScope s_least_of) f cdv A outer s H E) ⟨[], σ₀, h₀, xc⟩ (fun cls d _ H => E cls d H) (defBody s_least_of) (w_least_of S_check_rows S_least_among) :=
  (sss_cons (ss_expr (se_callO O_check_rows mS_check_rows tkF hr (by rfl) (sa_cons (se_frz (se_var (i := 0))) sa_nil)))
  (sss_one (ss_ret (se_callO O_least_among mS_least_among tkF hr (by rfl) (sa_cons (se_frz (se_var (i := 0))) sa_nil)))))
theorem der_highs_outside {P : Program} {w : World} {K : PySem.W.Frag} {mg : Str → Option Value} {base : Heap} (T : Tp P w K mg base) {S_check_high S_check_row S_least_of S_parts_outside S_greatest_among : FSpec} (mS_check_high : MonoF S_check_high) (mS_check_row : MonoF S_check_row) (mS_least_of : MonoF S_least_of) (mS_parts_outside : MonoF S_parts_outside) (mS_greatest_among : MonoF S_greatest_among) (O_check_high : Ok P w K mg base "check_high" ["high", "width"] 3 S_check_high) (O_check_row : Ok P w K mg base "check_row" ["row", "width"] 3 S_check_row) (O_least_of : Ok P w K mg base "least_of" ["rows"] 5 S_least_of) (O_parts_outside : Ok P w K mg base "parts_outside" ["high", "row"] 2 S_parts_outside) (O_greatest_among : Ok P w K mg base "greatest_among" ["highs", "limit"] 4 S_greatest_among) {f : Addr} (cdv : Value) (A : Around) (outer : List Env) (s : Shared) (H : Hp) (E : XK) (hr : RoomG 5 (A.deeper (PyProof.Rows.envOfC "highs_outside" (defScope s_highs_outside) s.heap.objs.size f cdv)))
    (σ₀ : L2.St) (h₀ : Hp) (xc : Addr → Value → Option Addr → Prop) : SSs (cxOf (L2.CX P w) P w K mg base ["high", "rows", "row", "kept", "one", "part"] "highs_outside" (defScope s_highs_outside) f cdv A outer s H E) ⟨[], σ₀, h₀, xc⟩ (fun cls d _ H => E cls d H) (defBody s_highs_outside) (w_highs_outside S_check_high S_check_row S_least_of S_parts_outside S_greatest_among) :=
  (sss_cons (ss_expr (se_callO O_check_high mS_check_high tkF hr (by rfl) (sa_cons (se_frz (se_var (i := 0))) (sa_cons se_non sa_nil))))
  (sss_cons (ss_for poF rfl (si_it (se_var (i := 1))) (sg_name (i := 2) sc_highs_outside.nd rfl (by first | exact .inl rfl | exact .inr rfl)) (show ∀ i ∈ ([2] : List Nat), i ∉ ([] : List Nat) from by decide)
  (sss_one (ss_expr (se_callO O_check_row mS_check_row tkF hr (by rfl) (sa_cons (se_frz (se_var (i := 2))) (sa_cons (se_frz (se_callB vl_len (by rfl) T.z_len (by with_unfolding_all rfl) (sa_cons (se_var (i := 0)) sa_nil))) sa_nil))))))
  (sss_cons (ss_set (i := 3) (show 3 ∉ ([] : List Nat) from by decide) sc_highs_outside.nd rfl (by first | exact .inl rfl | exact .inr rfl) (se_lst (sa_cons (se_var (i := 0)) sa_nil)))
  (sss_cons (ss_for poF rfl (si_it (se_callO O_least_of mS_least_of tkF hr (by rfl) (sa_cons (se_frz (se_var (i := 1))) sa_nil))) (sg_name (i := 2) sc_highs_outside.nd rfl (by first | exact .inl rfl | exact .inr rfl)) (show ∀ i ∈ ([2] : List Nat), i ∉ ([] : List Nat) from by decide)
  (sss_one (ss_set (i := 3) (show 3 ∉ ([] : List Nat) from by decide) sc_highs_outside.nd rfl (by first | exact .inl rfl | exact .inr rfl) (se_callO O_greatest_among mS_greatest_among tkF hr (by rfl) (sa_cons (se_frz (se_lc2V (own := [("one", 4), ("part", 5)]) (vs1 := [5]) rfl sc_highs_outside.nd (show BlkOk ["high", "rows", "row", "kept", "one", "part"] (defScope s_highs_outside) _ [("one", 4), ("part", 5)] from ⟨rfl, by decide +kernel, by decide +kernel, by decide +kernel, by decide +kernel⟩) (si_it (se_var (i := 3))) (show ∀ i ∈ ([4, 5] : List Nat), i ∉ ([] : List Nat) from by decide) (show ∀ i ∈ ([5] : List Nat), i ∈ ([4, 5] : List Nat) from by decide) (show ∀ i ∈ ([4] : List Nat), i ∈ ([4, 5] : List Nat) from by decide) (show ∀ i ∈ ([5] : List Nat), i ∈ ([5] : List Nat) from by decide) (fun _ _ _ _ _ => (sg_name (i := 4) sc_highs_outside.nd rfl (by first | exact .inl rfl | exact .inr rfl))) (fun _ _ _ _ _ => (si_it (se_callO O_parts_outside mS_parts_outside tk0 hr (by rfl) (sa_cons (se_frz (se_var (i := 4))) (sa_cons (se_frz (se_var (i := 2))) sa_nil))))) (fun _ _ _ _ _ => (sg_name (i := 5) sc_highs_outside.nd rfl (by first | exact .inl rfl | exact .inr rfl))) (fun _ _ _ _ _ => (se_var (i := 5))))) (sa_cons (se_frz (let ⟨_, h⟩ := T.c_MOST_HIGHS; se_globI (by rfl) h)) sa_nil))))))
  (sss_one (ss_ret (se_var (i := 3))))))))
theorem der__law_again {P : Program} {w : World} {K : PySem.W.Frag} {mg : Str → Option Value} {base : Heap} (T : Tp P w K mg base) {S_highs_outside : FSpec} (mS_highs_outside : MonoF S_highs_outside) (O_highs_outside : Ok P w K mg base "highs_outside" ["high", "rows"] 6 S_highs_outside) {f : Addr} (cdv : Value) (A : Around) (outer : List Env) (s : Shared) (H : Hp) (E : XK) (hr : RoomG 6 (A.deeper (PyProof.Rows.envOfC "_law_again" (defScope s__law_again) s.heap.objs.size f cdv)))
    (σ₀ : L2.St) (h₀ : Hp) (xc : Addr → Value → Option Addr → Prop) : SSs (cxOf (L2.CX P w) P w K mg base ["_law_high_here", "_law_rows_here", "_law_told", "_law_kept", "_law_handed", "_law_changed"] "_law_again" (defScope s__law_again) f cdv A outer s H E) ⟨[], σ₀, h₀, xc⟩ (fun cls d _ H => E cls d H) (defBody s__law_again) (w__law_again S_highs_outside) :=
  (sss_cons (ss_set (i := 3) (show 3 ∉ ([] : List Nat) from by decide) sc__law_again.nd rfl (by first | exact .inl rfl | exact .inr rfl) (se_callTy vl_list (by rfl) T.z_list (by with_unfolding_all rfl) (sa_cons (se_var (i := 2)) sa_nil)))
  (sss_cons (ss_set (i := 4) (show 4 ∉ ([] : List Nat) from by decide) sc__law_again.nd rfl (by first | exact .inl rfl | exact .inr rfl) (se_callTy vl_list (by rfl) T.z_list (by with_unfolding_all rfl) (sa_cons (se_var (i := 1)) sa_nil)))
  (sss_cons (ss_set (i := 5) (show 5 ∉ ([] : List Nat) from by decide) sc__law_again.nd rfl (by first | exact .inl rfl | exact .inr rfl) (se_callO O_highs_outside mS_highs_outside tkF hr (by rfl) (sa_cons (se_frz (se_var (i := 0))) (sa_cons (se_frz (se_var (i := 4))) sa_nil))))
  (sss_cons (ss_app (i := 5) se_non)
  (sss_cons (ss_if (SPW.st (spw_or (st_cmp (vr_ne hr.u64) (se_var (i := 4)) (se_var (i := 1)) (by with_unfolding_all rfl)) (spw_or (st_cmp (vr_ne hr.u64) (se_callO O_highs_outside mS_highs_outside tkF hr (by rfl) (sa_cons (se_frz (se_var (i := 0))) (sa_cons (se_frz (se_var (i := 4))) sa_nil))) (se_var (i := 3)) (by with_unfolding_all rfl)) (spw_or1 (st_cmp (vr_ne hr.u64) (se_callO O_highs_outside mS_highs_outside tkF hr (by rfl) (sa_cons (se_frz (se_var (i := 0))) (sa_cons (se_frz (se_lst sa_nil)) sa_nil))) (se_lst (sa_cons (se_var (i := 0)) sa_nil)) (by with_unfolding_all rfl))))))
  (sss_one (ss_ret se_bl))
  sss_nil)
  (sss_one (ss_ret (se_cmp (vr_eq hr.u64) (se_callO O_highs_outside mS_highs_outside tkF hr (by rfl) (sa_cons (se_frz (se_var (i := 0))) (sa_cons (se_frz (se_op vr_add (se_revS (se_var (i := 1))) (se_var (i := 1)))) sa_nil))) (se_var (i := 3)) (by with_unfolding_all rfl)))))))))
theorem der__law_refused {P : Program} {w : World} {K : PySem.W.Frag} {mg : Str → Option Value} {base : Heap} (T : Tp P w K mg base) {S_highs_outside : FSpec} (mS_highs_outside : MonoF S_highs_outside) (O_highs_outside : Ok P w K mg base "highs_outside" ["high", "rows"] 6 S_highs_outside) {f : Addr} (cdv : Value) (A : Around) (outer : List Env) (s : Shared) (H : Hp) (E : XK) (hr : RoomG 6 (A.deeper (PyProof.Rows.envOfC "_law_refused" (defScope s__law_refused) s.heap.objs.size f cdv)))
    (σ₀ : L2.St) (h₀ : Hp) (xc : Addr → Value → Option Addr → Prop) : SSs (cxOf (L2.CX P w) P w K mg base ["_law_high_here", "_law_rows_here", "e"] "_law_refused" (defScope s__law_refused) f cdv A outer s H E) ⟨[], σ₀, h₀, xc⟩ (fun cls d _ H => E cls d H) (defBody s__law_refused) (w__law_refused S_highs_outside) :=
  (sss_cons (ss_tryV (l := [("InvalidRow", true)]) (i := 2) T.x_InvalidRow rfl rfl sc__law_refused.nd rfl rfl (by rfl) tkF poF (show 2 ∉ ([] : List Nat) from by decide) (by intro p hp; simp only [List.mem_cons, List.not_mem_nil, or_false] at hp; rcases hp with rfl <;> first | exact T.e_InvalidRow_InvalidRow) (fun _ _ _ tk' po' => (sss_one (ss_expr (se_callO O_highs_outside mS_highs_outside tk' hr (by rfl) (sa_cons (se_frz (se_var (i := 0))) (sa_cons (se_frz (se_var (i := 1))) sa_nil))))))
  (fun _ _ _ _ _ hz hf => (sss_one (ss_ret (se_lst (sa_cons se_str (sa_cons (se_callB (vl_repr hr.u66 hr.gd) (by rfl) T.z_repr (by with_unfolding_all rfl) (sa_cons (se_exV (x := "InvalidRow") (i := 2) T.x_InvalidRow rfl hz hf rfl (.inl rfl)) sa_nil)) sa_nil)))))))
  (sss_one (ss_ret (se_lst (sa_cons se_str (sa_cons se_str sa_nil))))))
theorem der__law_refusals {P : Program} {w : World} {K : PySem.W.Frag} {mg : Str → Option Value} {base : Heap} (T : Tp P w K mg base) {S__law_take S__law_odd S__law_refused : FSpec} (mS__law_take : MonoF S__law_take) (mS__law_odd : MonoF S__law_odd) (mS__law_refused : MonoF S__law_refused) (O__law_take : Ok P w K mg base "_law_take" ["_law_bag_here", "_law_many"] 1 S__law_take) (O__law_odd : Ok P w K mg base "_law_odd" ["_law_row", "_law_place", "_law_way"] 1 S__law_odd) (O__law_refused : Ok P w K mg base "_law_refused" ["_law_high_here", "_law_rows_here"] 7 S__law_refused) {f : Addr} (cdv : Value) (A : Around) (outer : List Env) (s : Shared) (H : Hp) (E : XK) (hr : RoomG 7 (A.deeper (PyProof.Rows.envOfC "_law_refusals" (defScope s__law_refusals) s.heap.objs.size f cdv)))
    (σ₀ : L2.St) (h₀ : Hp) (xc : Addr → Value → Option Addr → Prop) : SSs (cxOf (L2.CX P w) P w K mg base ["_law_bag_here", "_law_high_here", "_law_rows_here", "_law_width", "_law_row", "_law_place", "_law_at", "_law_way", "_law_odd_here", "_law_wrong"] "_law_refusals" (defScope s__law_refusals) f cdv A outer s H E) ⟨[0], σ₀, h₀, xc⟩ (fun cls d _ H => E cls d H) (defBody s__law_refusals) (w__law_refusals S__law_take S__law_odd S__law_refused) :=
  (sss_cons (ss_set (i := 3) (show 3 ∉ ([0] : List Nat) from by decide) sc__law_refusals.nd rfl (by first | exact .inl rfl | exact .inr rfl) (se_callB vl_len (by rfl) T.z_len (by with_unfolding_all rfl) (sa_cons (se_var (i := 1)) sa_nil)))
  (sss_cons (ss_set (i := 4) (show 4 ∉ ([0] : List Nat) from by decide) sc__law_refusals.nd rfl (by first | exact .inl rfl | exact .inr rfl) (se_ix vi_ix (se_op vr_add (se_var (i := 2)) (se_lst (sa_cons (se_op vr_mulT (se_tup (sa_cons se_int sa_nil)) (se_var (i := 3))) sa_nil))) se_int))
  (sss_cons (ss_set (i := 5) (show 5 ∉ ([0] : List Nat) from by decide) sc__law_refusals.nd rfl (by first | exact .inl rfl | exact .inr rfl) (se_callO O__law_take mS__law_take tkF hr (by rfl) (sa_cons (se_var (i := 0)) (sa_cons (se_frz (se_var (i := 3))) sa_nil))))
  (sss_cons (ss_set (i := 6) (show 6 ∉ ([0] : List Nat) from by decide) sc__law_refusals.nd rfl (by first | exact .inl rfl | exact .inr rfl) (se_callO O__law_take mS__law_take tkF hr (by rfl) (sa_cons (se_var (i := 0)) (sa_cons (se_frz (se_op vr_add (se_callB vl_len (by rfl) T.z_len (by with_unfolding_all rfl) (sa_cons (se_var (i := 2)) sa_nil)) se_int)) sa_nil))))
  (sss_cons (ss_for poF rfl (si_rng1 (by rfl) T.z_range (sa_cons se_int sa_nil)) (sg_name (i := 7) sc__law_refusals.nd rfl (by first | exact .inl rfl | exact .inr rfl)) (show ∀ i ∈ ([7] : List Nat), i ∉ ([0] : List Nat) from by decide)
  (sss_cons (ss_set (i := 8) (show 8 ∉ ([0] : List Nat) from by decide) sc__law_refusals.nd rfl (by first | exact .inl rfl | exact .inr rfl) (se_callO O__law_odd mS__law_odd tkF hr (by rfl) (sa_cons (se_frz (se_var (i := 4))) (sa_cons (se_frz (se_var (i := 5))) (sa_cons (se_frz (se_var (i := 7))) sa_nil)))))
  (sss_one (ss_if (st_cmp (vr_neS hr.u0) (se_callO O__law_refused mS__law_refused tkF hr (by rfl) (sa_cons (se_frz (se_var (i := 1))) (sa_cons (se_frz (se_op vr_add (se_op vr_add (se_op vr_add (se_sl (se_var (i := 2)) so_none (so_some (se_var (i := 6)))) (se_lst (sa_cons (se_var (i := 8)) sa_nil))) (se_sl (se_var (i := 2)) (so_some (se_var (i := 6))) so_none)) (se_lst (sa_cons se_non sa_nil)))) sa_nil))) (se_lst (sa_cons se_str (sa_cons (se_callB (vl_repr hr.u66 hr.gd) (by rfl) T.z_repr (by with_unfolding_all rfl) (sa_cons (se_var (i := 8)) sa_nil)) sa_nil))) (by with_unfolding_all rfl))
  (sss_one (ss_ret se_bl))
  sss_nil))))
  (sss_cons (ss_set (i := 9) (show 9 ∉ ([0] : List Nat) from by decide) sc__law_refusals.nd rfl (by first | exact .inl rfl | exact .inr rfl) (se_lst (sa_cons (se_op vr_add (se_op vr_add (se_sl (se_var (i := 1)) so_none (so_some (se_var (i := 5)))) (se_tup (sa_cons (se_neg se_int) sa_nil))) (se_sl (se_var (i := 1)) (so_some (se_op vr_add (se_var (i := 5)) se_int)) so_none)) (sa_cons (se_op vr_add (se_op vr_add (se_sl (se_var (i := 1)) so_none (so_some (se_var (i := 5)))) (se_tup (sa_cons se_bl sa_nil))) (se_sl (se_var (i := 1)) (so_some (se_op vr_add (se_var (i := 5)) se_int)) so_none)) (sa_cons (se_callTy vl_list (by rfl) T.z_list (by with_unfolding_all rfl) (sa_cons (se_var (i := 1)) sa_nil)) sa_nil)))))
  (sss_cons (ss_set (i := 9) (show 9 ∉ ([0] : List Nat) from by decide) sc__law_refusals.nd rfl (by first | exact .inl rfl | exact .inr rfl) (se_op vr_add (se_var (i := 9)) (se_lst (sa_cons (se_tup sa_nil) (sa_cons (se_op vr_mulT (se_tup (sa_cons se_non sa_nil)) se_int) (sa_cons se_non (sa_cons se_int (sa_cons (se_op vr_add (se_op vr_add (se_sl (se_var (i := 1)) so_none (so_some (se_var (i := 5)))) (se_tup (sa_cons se_str sa_nil))) (se_sl (se_var (i := 1)) (so_some (se_op vr_add (se_var (i := 5)) se_int)) so_none)) sa_nil))))))))
  (sss_cons (ss_for poF rfl (si_it (se_var (i := 9))) (sg_name (i := 8) sc__law_refusals.nd rfl (by first | exact .inl rfl | exact .inr rfl)) (show ∀ i ∈ ([8] : List Nat), i ∉ ([0] : List Nat) from by decide)
  (sss_one (ss_if (SPW.st (spw_or (st_cmp (vr_neS hr.u0) (se_callO O__law_refused mS__law_refused tkF hr (by rfl) (sa_cons (se_frz (se_var (i := 8))) (sa_cons (se_frz (se_lst (sa_cons se_non sa_nil))) sa_nil))) (se_lst (sa_cons se_str (sa_cons (se_callB (vl_repr hr.u66 hr.gd) (by rfl) T.z_repr (by with_unfolding_all rfl) (sa_cons (se_var (i := 8)) sa_nil)) sa_nil))) (by with_unfolding_all rfl)) (spw_or1 (st_cmp (vr_neS hr.u0) (se_callO O__law_refused mS__law_refused tkF hr (by rfl) (sa_cons (se_frz (se_var (i := 8))) (sa_cons (se_frz (se_var (i := 2))) sa_nil))) (se_lst (sa_cons se_str (sa_cons (se_callB (vl_repr hr.u66 hr.gd) (by rfl) T.z_repr (by with_unfolding_all rfl) (sa_cons (se_var (i := 8)) sa_nil)) sa_nil))) (by with_unfolding_all rfl)))))
  (sss_one (ss_ret se_bl))
  sss_nil)))
  (sss_one (ss_ret se_bl))))))))))
theorem der_law {P : Program} {w : World} {K : PySem.W.Frag} {mg : Str → Option Value} {base : Heap} (T : Tp P w K mg base) {S__law_bag S__law_take S__law_levels S__law_high S__law_rows S__law_drawn S_highs_outside S__law_outside S__law_shaped S__law_cube S__law_refusals S__law_again : FSpec} (mS__law_bag : MonoF S__law_bag) (mS__law_take : MonoF S__law_take) (mS__law_levels : MonoF S__law_levels) (mS__law_high : MonoF S__law_high) (mS__law_rows : MonoF S__law_rows) (mS__law_drawn : MonoF S__law_drawn) (mS_highs_outside : MonoF S_highs_outside) (mS__law_outside : MonoF S__law_outside) (mS__law_shaped : MonoF S__law_shaped) (mS__law_cube : MonoF S__law_cube) (mS__law_refusals : MonoF S__law_refusals) (mS__law_again : MonoF S__law_again) (O__law_bag : Ok P w K mg base "_law_bag" ["_law_script"] 1 S__law_bag) (O__law_take : Ok P w K mg base "_law_take" ["_law_bag_here", "_law_many"] 1 S__law_take) (O__law_levels : Ok P w K mg base "_law_levels" ["_law_bag_here", "_law_width"] 2 S__law_levels) (O__law_high : Ok P w K mg base "_law_high" ["_law_bag_here", "_law_levels_here"] 2 S__law_high) (O__law_rows : Ok P w K mg base "_law_rows" ["_law_bag_here", "_law_levels_here"] 2 S__law_rows) (O__law_drawn : Ok P w K mg base "_law_drawn" ["_law_bag_here", "_law_levels_here"] 2 S__law_drawn) (O_highs_outside : Ok P w K mg base "highs_outside" ["high", "rows"] 6 S_highs_outside) (O__law_outside : Ok P w K mg base "_law_outside" ["_law_told", "_law_high_here", "_law_rows_here", "_law_row"] 2 S__law_outside) (O__law_shaped : Ok P w K mg base "_law_shaped" ["_law_told", "_law_high_here", "_law_rows_here"] 3 S__law_shaped) (O__law_cube : Ok P w K mg base "_law_cube" ["_law_levels_here", "_law_high_here"] 2 S__law_cube) (O__law_refusals : Ok P w K mg base "_law_refusals" ["_law_bag_here", "_law_high_here", "_law_rows_here"] 8 S__law_refusals) (O__law_again : Ok P w K mg base "_law_again" ["_law_high_here", "_law_rows_here", "_law_told"] 7 S__law_again) {f : Addr} (cdv : Value) (A : Around) (outer : List Env) (s : Shared) (H : Hp) (E : XK) (hr : RoomG 8 (A.deeper (PyProof.Rows.envOfC "law" (defScope s_law) s.heap.objs.size f cdv)))
    (σ₀ : L2.St) (h₀ : Hp) (xc : Addr → Value → Option Addr → Prop) : SSs (cxOf (L2.CX P w) P w K mg base ["_law_script", "_law_bag_here", "_law_levels_here", "_law_high_here", "_law_rows_here", "_law_drawn_here", "_law_told", "_law_row"] "law" (defScope s_law) f cdv A outer s H E) ⟨[], σ₀, h₀, xc⟩ (fun cls d _ H => E cls d H) (defBody s_law) (w_law S__law_bag S__law_take S__law_levels S__law_high S__law_rows S__law_drawn S_highs_outside S__law_outside S__law_shaped S__law_cube S__law_refusals S__law_again) :=
  (sss_cons (ss_set (i := 1) (show 1 ∉ ([] : List Nat) from by decide) sc_law.nd rfl (by first | exact .inl rfl | exact .inr rfl) (se_callO O__law_bag mS__law_bag tkF hr (by rfl) (sa_cons (se_frz (se_var (i := 0))) sa_nil)))
  (sss_cons (ss_set (i := 2) (show 2 ∉ ([] : List Nat) from by decide) sc_law.nd rfl (by first | exact .inl rfl | exact .inr rfl) (se_callO O__law_levels mS__law_levels tkF hr (by rfl) (sa_cons (se_var (i := 1)) (sa_cons (se_frz (se_op vr_add se_int (se_callO O__law_take mS__law_take tkF hr (by rfl) (sa_cons (se_var (i := 1)) (sa_cons se_int sa_nil))))) sa_nil))))
  (sss_cons (ss_set (i := 3) (show 3 ∉ ([] : List Nat) from by decide) sc_law.nd rfl (by first | exact .inl rfl | exact .inr rfl) (se_callO O__law_high mS__law_high tkF hr (by rfl) (sa_cons (se_var (i := 1)) (sa_cons (se_frz (se_var (i := 2))) sa_nil))))
  (sss_cons (ss_set (i := 4) (show 4 ∉ ([] : List Nat) from by decide) sc_law.nd rfl (by first | exact .inl rfl | exact .inr rfl) (se_callO O__law_rows mS__law_rows tkF hr (by rfl) (sa_cons (se_var (i := 1)) (sa_cons (se_frz (se_var (i := 2))) sa_nil))))
  (sss_cons (ss_set (i := 5) (show 5 ∉ ([] : List Nat) from by decide) sc_law.nd rfl (by first | exact .inl rfl | exact .inr rfl) (se_callO O__law_drawn mS__law_drawn tkF hr (by rfl) (sa_cons (se_var (i := 1)) (sa_cons (se_frz (se_var (i := 2))) sa_nil))))
  (sss_cons (ss_set (i := 6) (show 6 ∉ ([] : List Nat) from by decide) sc_law.nd rfl (by first | exact .inl rfl | exact .inr rfl) (se_callO O_highs_outside mS_highs_outside tkF hr (by rfl) (sa_cons (se_frz (se_var (i := 3))) (sa_cons (se_frz (se_callTy vl_list (by rfl) T.z_list (by with_unfolding_all rfl) (sa_cons (se_var (i := 4)) sa_nil))) sa_nil))))
  (sss_cons (ss_if (SPW.st (spw_or (st_not (st_tru (se_callO O__law_shaped mS__law_shaped tkF hr (by rfl) (sa_cons (se_frz (se_var (i := 6))) (sa_cons (se_frz (se_var (i := 3))) (sa_cons (se_frz (se_var (i := 4))) sa_nil)))))) (spw_or1 (st_not (st_tru (se_callO O__law_outside mS__law_outside tkF hr (by rfl) (sa_cons (se_frz (se_var (i := 6))) (sa_cons (se_frz (se_var (i := 3))) (sa_cons (se_frz (se_var (i := 4))) (sa_cons (se_frz (se_var (i := 5))) sa_nil))))))))))
  (sss_one (ss_ret se_bl))
  sss_nil)
  (sss_cons (ss_for poF rfl (si_it (se_callO O__law_cube mS__law_cube tkF hr (by rfl) (sa_cons (se_frz (se_var (i := 2))) (sa_cons (se_frz (se_var (i := 3))) sa_nil)))) (sg_name (i := 7) sc_law.nd rfl (by first | exact .inl rfl | exact .inr rfl)) (show ∀ i ∈ ([7] : List Nat), i ∉ ([] : List Nat) from by decide)
  (sss_one (ss_if (st_not (st_tru (se_callO O__law_outside mS__law_outside tkF hr (by rfl) (sa_cons (se_frz (se_var (i := 6))) (sa_cons (se_frz (se_var (i := 3))) (sa_cons (se_frz (se_var (i := 4))) (sa_cons (se_frz (se_var (i := 7))) sa_nil)))))))
  (sss_one (ss_ret se_bl))
  sss_nil)))
  (sss_one (ss_ret (se_and (se_callO O__law_again mS__law_again tkF hr (by rfl) (sa_cons (se_frz (se_var (i := 3))) (sa_cons (se_frz (se_var (i := 4))) (sa_cons (se_frz (se_var (i := 6))) sa_nil)))) (se_one (se_callO O__law_refusals mS__law_refusals tkF hr (by rfl) (sa_cons (se_var (i := 1)) (sa_cons (se_frz (se_var (i := 3))) (sa_cons (se_frz (se_var (i := 4))) sa_nil))))))))))))))))
end LV


set_option Elab.async false
set_option linter.all false
set_option maxRecDepth 100000
set_option maxHeartbeats 2000000
namespace LV
open PySem PySem.Spec L2
theorem ok_is_integer {P : Program} {w : World} {K : PySem.W.Frag} {mg : Str → Option Value} {base : Heap} (T : Tp P w K mg base) : Ok P w K mg base "is_integer" ["value"] 1 S_is_integer :=
  let ⟨_, _, D⟩ := T.d_is_integer
  ok_mk [] D sc_is_integer kp_is_integer (der_is_integer T )
theorem ok_entries_cover {P : Program} {w : World} {K : PySem.W.Frag} {mg : Str → Option Value} {base : Heap} (T : Tp P w K mg base) : Ok P w K mg base "entries_cover" ["big", "small"] 1 S_entries_cover :=
  let ⟨_, _, D⟩ := T.d_entries_cover
  ok_mk [] D sc_entries_cover kp_entries_cover (der_entries_cover T )
theorem ok_high_key {P : Program} {w : World} {K : PySem.W.Frag} {mg : Str → Option Value} {base : Heap} (T : Tp P w K mg base) : Ok P w K mg base "high_key" ["high"] 1 S_high_key :=
  let ⟨_, _, D⟩ := T.d_high_key
  ok_mk [] D sc_high_key kp_high_key (der_high_key T )
theorem ok_entries_under {P : Program} {w : World} {K : PySem.W.Frag} {mg : Str → Option Value} {base : Heap} (T : Tp P w K mg base) : Ok P w K mg base "entries_under" ["one", "other"] 1 S_entries_under :=
  let ⟨_, _, D⟩ := T.d_entries_under
  ok_mk [] D sc_entries_under kp_entries_under (der_entries_under T )
theorem ok__law_bag {P : Program} {w : World} {K : PySem.W.Frag} {mg : Str → Option Value} {base : Heap} (T : Tp P w K mg base) : Ok P w K mg base "_law_bag" ["_law_script"] 1 S__law_bag :=
  let ⟨_, _, D⟩ := T.d__law_bag
  ok_mk [] D sc__law_bag kp__law_bag (der__law_bag T )
theorem ok__law_take {P : Program} {w : World} {K : PySem.W.Frag} {mg : Str → Option Value} {base : Heap} (T : Tp P w K mg base) : Ok P w K mg base "_law_take" ["_law_bag_here", "_law_many"] 1 S__law_take :=
  let ⟨_, _, D⟩ := T.d__law_take
  ok_mk [0] D sc__law_take kp__law_take (der__law_take T )
theorem ok__law_is_integer {P : Program} {w : World} {K : PySem.W.Frag} {mg : Str → Option Value} {base : Heap} (T : Tp P w K mg base) : Ok P w K mg base "_law_is_integer" ["_law_value"] 1 S__law_is_integer :=
  let ⟨_, _, D⟩ := T.d__law_is_integer
  ok_mk [] D sc__law_is_integer kp__law_is_integer (der__law_is_integer T )
theorem ok__law_key {P : Program} {w : World} {K : PySem.W.Frag} {mg : Str → Option Value} {base : Heap} (T : Tp P w K mg base) : Ok P w K mg base "_law_key" ["_law_high_here"] 1 S__law_key :=
  let ⟨_, _, D⟩ := T.d__law_key
  ok_mk [] D sc__law_key kp__law_key (der__law_key T )
theorem ok__law_below {P : Program} {w : World} {K : PySem.W.Frag} {mg : Str → Option Value} {base : Heap} (T : Tp P w K mg base) : Ok P w K mg base "_law_below" ["_law_one", "_law_other"] 1 S__law_below :=
  let ⟨_, _, D⟩ := T.d__law_below
  ok_mk [] D sc__law_below kp__law_below (der__law_below T )
theorem ok__law_over {P : Program} {w : World} {K : PySem.W.Frag} {mg : Str → Option Value} {base : Heap} (T : Tp P w K mg base) : Ok P w K mg base "_law_over" ["_law_big", "_law_small"] 1 S__law_over :=
  let ⟨_, _, D⟩ := T.d__law_over
  ok_mk [] D sc__law_over kp__law_over (der__law_over T )
theorem ok__law_keeps_out {P : Program} {w : World} {K : PySem.W.Frag} {mg : Str → Option Value} {base : Heap} (T : Tp P w K mg base) : Ok P w K mg base "_law_keeps_out" ["_law_high_here", "_law_row"] 1 S__law_keeps_out :=
  let ⟨_, _, D⟩ := T.d__law_keeps_out
  ok_mk [] D sc__law_keeps_out kp__law_keeps_out (der__law_keeps_out T )
theorem ok__law_values {P : Program} {w : World} {K : PySem.W.Frag} {mg : Str → Option Value} {base : Heap} (T : Tp P w K mg base) : Ok P w K mg base "_law_values" ["_law_levels_here", "_law_high_here", "_law_k"] 1 S__law_values :=
  let ⟨_, _, D⟩ := T.d__law_values
  ok_mk [] D sc__law_values kp__law_values (der__law_values T )
theorem ok__law_odd {P : Program} {w : World} {K : PySem.W.Frag} {mg : Str → Option Value} {base : Heap} (T : Tp P w K mg base) : Ok P w K mg base "_law_odd" ["_law_row", "_law_place", "_law_way"] 1 S__law_odd :=
  let ⟨_, _, D⟩ := T.d__law_odd
  ok_mk [] D sc__law_odd kp__law_odd (der__law_odd T )
theorem ok_is_row {P : Program} {w : World} {K : PySem.W.Frag} {mg : Str → Option Value} {base : Heap} (T : Tp P w K mg base) : Ok P w K mg base "is_row" ["value", "width"] 2 S_is_row :=
  let ⟨_, _, D⟩ := T.d_is_row
  ok_mk [] D sc_is_row kp_is_row (der_is_row T mS_is_integer (ok_is_integer T))
theorem ok_covers_some {P : Program} {w : World} {K : PySem.W.Frag} {mg : Str → Option Value} {base : Heap} (T : Tp P w K mg base) : Ok P w K mg base "covers_some" ["row", "rows"] 2 S_covers_some :=
  let ⟨_, _, D⟩ := T.d_covers_some
  ok_mk [1] D sc_covers_some kp_covers_some (der_covers_some T mS_entries_cover (ok_entries_cover T))
theorem ok_is_high {P : Program} {w : World} {K : PySem.W.Frag} {mg : Str → Option Value} {base : Heap} (T : Tp P w K mg base) : Ok P w K mg base "is_high" ["value", "width"] 2 S_is_high :=
  let ⟨_, _, D⟩ := T.d_is_high
  ok_mk [] D sc_is_high kp_is_high (der_is_high T mS_is_integer (ok_is_integer T))
theorem ok_under_some {P : Program} {w : World} {K : PySem.W.Frag} {mg : Str → Option Value} {base : Heap} (T : Tp P w K mg base) : Ok P w K mg base "under_some" ["one", "highs"] 2 S_under_some :=
  let ⟨_, _, D⟩ := T.d_under_some
  ok_mk [1] D sc_under_some kp_under_some (der_under_some T mS_entries_under (ok_entries_under T))
theorem ok_parts_outside {P : Program} {w : World} {K : PySem.W.Frag} {mg : Str → Option Value} {base : Heap} (T : Tp P w K mg base) : Ok P w K mg base "parts_outside" ["high", "row"] 2 S_parts_outside :=
  let ⟨_, _, D⟩ := T.d_parts_outside
  ok_mk [] D sc_parts_outside kp_parts_outside (der_parts_outside T mS_entries_under (ok_entries_under T))
theorem ok__law_is_high {P : Program} {w : World} {K : PySem.W.Frag} {mg : Str → Option Value} {base : Heap} (T : Tp P w K mg base) : Ok P w K mg base "_law_is_high" ["_law_value", "_law_width"] 2 S__law_is_high :=
  let ⟨_, _, D⟩ := T.d__law_is_high
  ok_mk [] D sc__law_is_high kp__law_is_high (der__law_is_high T mS__law_is_integer (ok__law_is_integer T))
theorem ok__law_levels {P : Program} {w : World} {K : PySem.W.Frag} {mg : Str → Option Value} {base : Heap} (T : Tp P w K mg base) : Ok P w K mg base "_law_levels" ["_law_bag_here", "_law_width"] 2 S__law_levels :=
  let ⟨_, _, D⟩ := T.d__law_levels
  ok_mk [0] D sc__law_levels kp__law_levels (der__law_levels T mS__law_take (ok__law_take T))
theorem ok__law_high {P : Program} {w : World} {K : PySem.W.Frag} {mg : Str → Option Value} {base : Heap} (T : Tp P w K mg base) : Ok P w K mg base "_law_high" ["_law_bag_here", "_law_levels_here"] 2 S__law_high :=
  let ⟨_, _, D⟩ := T.d__law_high
  ok_mk [0] D sc__law_high kp__law_high (der__law_high T mS__law_take (ok__law_take T))
theorem ok__law_rows {P : Program} {w : World} {K : PySem.W.Frag} {mg : Str → Option Value} {base : Heap} (T : Tp P w K mg base) : Ok P w K mg base "_law_rows" ["_law_bag_here", "_law_levels_here"] 2 S__law_rows :=
  let ⟨_, _, D⟩ := T.d__law_rows
  ok_mk [0] D sc__law_rows kp__law_rows (der__law_rows T mS__law_take (ok__law_take T))
theorem ok__law_drawn {P : Program} {w : World} {K : PySem.W.Frag} {mg : Str → Option Value} {base : Heap} (T : Tp P w K mg base) : Ok P w K mg base "_law_drawn" ["_law_bag_here", "_law_levels_here"] 2 S__law_drawn :=
  let ⟨_, _, D⟩ := T.d__law_drawn
  ok_mk [0] D sc__law_drawn kp__law_drawn (der__law_drawn T mS__law_take (ok__law_take T))
theorem ok__law_good {P : Program} {w : World} {K : PySem.W.Frag} {mg : Str → Option Value} {base : Heap} (T : Tp P w K mg base) : Ok P w K mg base "_law_good" ["_law_told", "_law_high_here", "_law_rows_here"] 2 S__law_good :=
  let ⟨_, _, D⟩ := T.d__law_good
  ok_mk [] D sc__law_good kp__law_good (der__law_good T mS__law_below mS__law_keeps_out (ok__law_below T) (ok__law_keeps_out T))
theorem ok__law_cube {P : Program} {w : World} {K : PySem.W.Frag} {mg : Str → Option Value} {base : Heap} (T : Tp P w K mg base) : Ok P w K mg base "_law_cube" ["_law_levels_here", "_law_high_here"] 2 S__law_cube :=
  let ⟨_, _, D⟩ := T.d__law_cube
  ok_mk [] D sc__law_cube kp__law_cube (der__law_cube T mS__law_values (ok__law_values T))
theorem ok__law_outside {P : Program} {w : World} {K : PySem.W.Frag} {mg : Str → Option Value} {base : Heap} (T : Tp P w K mg base) : Ok P w K mg base "_law_outside" ["_law_told", "_law_high_here", "_law_rows_here", "_law_row"] 2 S__law_outside :=
  let ⟨_, _, D⟩ := T.d__law_outside
  ok_mk [] D sc__law_outside kp__law_outside (der__law_outside T mS__law_below mS__law_over (ok__law_below T) (ok__law_over T))
theorem ok_check_row {P : Program} {w : World} {K : PySem.W.Frag} {mg : Str → Option Value} {base : Heap} (T : Tp P w K mg base) : Ok P w K mg base "check_row" ["row", "width"] 3 S_check_row :=
  let ⟨_, _, D⟩ := T.d_check_row
  ok_mk [] D sc_check_row kp_check_row (der_check_row T mS_is_row (ok_is_row T))
theorem ok_least_among {P : Program} {w : World} {K : PySem.W.Frag} {mg : Str → Option Value} {base : Heap} (T : Tp P w K mg base) : Ok P w K mg base "least_among" ["rows"] 3 S_least_among :=
  let ⟨_, _, D⟩ := T.d_least_among
  ok_mk [] D sc_least_among kp_least_among (der_least_among T mS_covers_some (ok_covers_some T))
theorem ok_check_high {P : Program} {w : World} {K : PySem.W.Frag} {mg : Str → Option Value} {base : Heap} (T : Tp P w K mg base) : Ok P w K mg base "check_high" ["high", "width"] 3 S_check_high :=
  let ⟨_, _, D⟩ := T.d_check_high
  ok_mk [] D sc_check_high kp_check_high (der_check_high T mS_is_high (ok_is_high T))
theorem ok__law_shaped {P : Program} {w : World} {K : PySem.W.Frag} {mg : Str → Option Value} {base : Heap} (T : Tp P w K mg base) : Ok P w K mg base "_law_shaped" ["_law_told", "_law_high_here", "_law_rows_here"] 3 S__law_shaped :=
  let ⟨_, _, D⟩ := T.d__law_shaped
  ok_mk [] D sc__law_shaped kp__law_shaped (der__law_shaped T mS__law_is_high mS__law_key mS__law_good (ok__law_is_high T) (ok__law_key T) (ok__law_good T))
theorem ok_check_rows {P : Program} {w : World} {K : PySem.W.Frag} {mg : Str → Option Value} {base : Heap} (T : Tp P w K mg base) : Ok P w K mg base "check_rows" ["rows"] 4 S_check_rows :=
  let ⟨_, _, D⟩ := T.d_check_rows
  ok_mk [] D sc_check_rows kp_check_rows (der_check_rows T mS_check_row (ok_check_row T))
theorem ok_greatest_among {P : Program} {w : World} {K : PySem.W.Frag} {mg : Str → Option Value} {base : Heap} (T : Tp P w K mg base) : Ok P w K mg base "greatest_among" ["highs", "limit"] 4 S_greatest_among :=
  let ⟨_, _, D⟩ := T.d_greatest_among
  ok_mk [] D sc_greatest_among kp_greatest_among (der_greatest_among T mS_high_key mS_under_some (ok_high_key T) (ok_under_some T))
theorem ok_least_of {P : Program} {w : World} {K : PySem.W.Frag} {mg : Str → Option Value} {base : Heap} (T : Tp P w K mg base) : Ok P w K mg base "least_of" ["rows"] 5 S_least_of :=
  let ⟨_, _, D⟩ := T.d_least_of
  ok_mk [] D sc_least_of kp_least_of (der_least_of T mS_check_rows mS_least_among (ok_check_rows T) (ok_least_among T))
theorem ok_highs_outside {P : Program} {w : World} {K : PySem.W.Frag} {mg : Str → Option Value} {base : Heap} (T : Tp P w K mg base) : Ok P w K mg base "highs_outside" ["high", "rows"] 6 S_highs_outside :=
  let ⟨_, _, D⟩ := T.d_highs_outside
  ok_mk [] D sc_highs_outside kp_highs_outside (der_highs_outside T mS_check_high mS_check_row mS_least_of mS_parts_outside mS_greatest_among (ok_check_high T) (ok_check_row T) (ok_least_of T) (ok_parts_outside T) (ok_greatest_among T))
theorem ok__law_again {P : Program} {w : World} {K : PySem.W.Frag} {mg : Str → Option Value} {base : Heap} (T : Tp P w K mg base) : Ok P w K mg base "_law_again" ["_law_high_here", "_law_rows_here", "_law_told"] 7 S__law_again :=
  let ⟨_, _, D⟩ := T.d__law_again
  ok_mk [] D sc__law_again kp__law_again (der__law_again T mS_highs_outside (ok_highs_outside T))
theorem ok__law_refused {P : Program} {w : World} {K : PySem.W.Frag} {mg : Str → Option Value} {base : Heap} (T : Tp P w K mg base) : Ok P w K mg base "_law_refused" ["_law_high_here", "_law_rows_here"] 7 S__law_refused :=
  let ⟨_, _, D⟩ := T.d__law_refused
  ok_mk [] D sc__law_refused kp__law_refused (der__law_refused T mS_highs_outside (ok_highs_outside T))
theorem ok__law_refusals {P : Program} {w : World} {K : PySem.W.Frag} {mg : Str → Option Value} {base : Heap} (T : Tp P w K mg base) : Ok P w K mg base "_law_refusals" ["_law_bag_here", "_law_high_here", "_law_rows_here"] 8 S__law_refusals :=
  let ⟨_, _, D⟩ := T.d__law_refusals
  ok_mk [0] D sc__law_refusals kp__law_refusals (der__law_refusals T mS__law_take mS__law_odd mS__law_refused (ok__law_take T) (ok__law_odd T) (ok__law_refused T))
theorem ok_law {P : Program} {w : World} {K : PySem.W.Frag} {mg : Str → Option Value} {base : Heap} (T : Tp P w K mg base) : Ok P w K mg base "law" ["_law_script"] 9 S_law :=
  let ⟨_, _, D⟩ := T.d_law
  ok_mk [] D sc_law kp_law (der_law T mS__law_bag mS__law_take mS__law_levels mS__law_high mS__law_rows mS__law_drawn mS_highs_outside mS__law_outside mS__law_shaped mS__law_cube mS__law_refusals mS__law_again (ok__law_bag T) (ok__law_take T) (ok__law_levels T) (ok__law_high T) (ok__law_rows T) (ok__law_drawn T) (ok_highs_outside T) (ok__law_outside T) (ok__law_shaped T) (ok__law_cube T) (ok__law_refusals T) (ok__law_again T))
end LV


set_option Elab.async false
set_option linter.all false
set_option maxRecDepth 100000
open PySem PySem.W PyProof.Rows
set_option maxHeartbeats 0 in
theorem PySem.Challenge.cw_lampthrong_k05_whole_highs_outside_holds : PySem.Challenge.rw_lampthrong_k05_whole_highs_outside.Holds := by
  w_on; o_law; k_head; (case hw => w_witness2)
  k_fill
  refine LV.walk_lv (l := PySem.Challenge.rw_lampthrong_k05_whole_highs_outside) (n := 63) (k := 9) (x := "_law_script") rfl (by decide) rfl ⟨⟨rfl, by decide, by decide⟩, rfl⟩ (fun w h Y => PySem.W.kIn_of Y) ?F
  case F =>
    intro w mg fa h KX GG hmg
    have T : ∀ base : Heap, LV.Tp PySem.Challenge.pw_lampthrong_k05_whole_highs_outside w _ mg base := fun base => by
      refine ⟨?_, ?_, ?_, ?_, ?_, ?_, ?_, ?_, ?_, ?_, ?_, ?_, ?_, ?_, ?_, ?_, ?_, ?_, ?_, ?_, ?_, ?_, ?_, ?_, ?_, ?_, ?_, ?_, ?_, ?_, ?_, ?_, ?_, ?_, ?_, ?_, ?_, ?_, ?_, ?_, ?_, ?_, ?_, ?_, ?_, ?_, ?_, ?_, ?_, ?_, ?_, ?_, ?_, ?_, ?_, ?_, ?_⟩
      · refine' LV.dat_mk KX GG ?a ?l ?c ?k ?b; (case a => k_is); (case l => k_is); (case c => k_is); (case k => k_is); (case b => exact fun _ _ _ _ _ _ us hl => match us, hl with | [_], _ => rfl)
      · refine' LV.dat_mk KX GG ?a ?l ?c ?k ?b; (case a => k_is); (case l => k_is); (case c => k_is); (case k => k_is); (case b => exact fun _ _ _ _ _ _ us hl => match us, hl with | [_, _], _ => rfl)
      · refine' LV.dat_mk KX GG ?a ?l ?c ?k ?b; (case a => k_is); (case l => k_is); (case c => k_is); (case k => k_is); (case b => exact fun _ _ _ _ _ _ us hl => match us, hl with | [_], _ => rfl)
      · refine' LV.dat_mk KX GG ?a ?l ?c ?k ?b; (case a => k_is); (case l => k_is); (case c => k_is); (case k => k_is); (case b => exact fun _ _ _ _ _ _ us hl => match us, hl with | [_, _], _ => rfl)
      · refine' LV.dat_mk KX GG ?a ?l ?c ?k ?b; (case a => k_is); (case l => k_is); (case c => k_is); (case k => k_is); (case b => exact fun _ _ _ _ _ _ us hl => match us, hl with | [_], _ => rfl)
      · refine' LV.dat_mk KX GG ?a ?l ?c ?k ?b; (case a => k_is); (case l => k_is); (case c => k_is); (case k => k_is); (case b => exact fun _ _ _ _ _ _ us hl => match us, hl with | [_, _], _ => rfl)
      · refine' LV.dat_mk KX GG ?a ?l ?c ?k ?b; (case a => k_is); (case l => k_is); (case c => k_is); (case k => k_is); (case b => exact fun _ _ _ _ _ _ us hl => match us, hl with | [_], _ => rfl)
      · refine' LV.dat_mk KX GG ?a ?l ?c ?k ?b; (case a => k_is); (case l => k_is); (case c => k_is); (case k => k_is); (case b => exact fun _ _ _ _ _ _ us hl => match us, hl with | [_], _ => rfl)
      · refine' LV.dat_mk KX GG ?a ?l ?c ?k ?b; (case a => k_is); (case l => k_is); (case c => k_is); (case k => k_is); (case b => exact fun _ _ _ _ _ _ us hl => match us, hl with | [_, _], _ => rfl)
      · refine' LV.dat_mk KX GG ?a ?l ?c ?k ?b; (case a => k_is); (case l => k_is); (case c => k_is); (case k => k_is); (case b => exact fun _ _ _ _ _ _ us hl => match us, hl with | [_, _], _ => rfl)
      · refine' LV.dat_mk KX GG ?a ?l ?c ?k ?b; (case a => k_is); (case l => k_is); (case c => k_is); (case k => k_is); (case b => exact fun _ _ _ _ _ _ us hl => match us, hl with | [_, _], _ => rfl)
      · refine' LV.dat_mk KX GG ?a ?l ?c ?k ?b; (case a => k_is); (case l => k_is); (case c => k_is); (case k => k_is); (case b => exact fun _ _ _ _ _ _ us hl => match us, hl with | [_, _, _], _ => rfl)
      · refine' LV.dat_mk KX GG ?a ?l ?c ?k ?b; (case a => k_is); (case l => k_is); (case c => k_is); (case k => k_is); (case b => exact fun _ _ _ _ _ _ us hl => match us, hl with | [_, _, _], _ => rfl)
      · refine' LV.dat_mk KX GG ?a ?l ?c ?k ?b; (case a => k_is); (case l => k_is); (case c => k_is); (case k => k_is); (case b => exact fun _ _ _ _ _ _ us hl => match us, hl with | [_, _], _ => rfl)
      · refine' LV.dat_mk KX GG ?a ?l ?c ?k ?b; (case a => k_is); (case l => k_is); (case c => k_is); (case k => k_is); (case b => exact fun _ _ _ _ _ _ us hl => match us, hl with | [_, _], _ => rfl)
      · refine' LV.dat_mk KX GG ?a ?l ?c ?k ?b; (case a => k_is); (case l => k_is); (case c => k_is); (case k => k_is); (case b => exact fun _ _ _ _ _ _ us hl => match us, hl with | [_, _], _ => rfl)
      · refine' LV.dat_mk KX GG ?a ?l ?c ?k ?b; (case a => k_is); (case l => k_is); (case c => k_is); (case k => k_is); (case b => exact fun _ _ _ _ _ _ us hl => match us, hl with | [_, _], _ => rfl)
      · refine' LV.dat_mk KX GG ?a ?l ?c ?k ?b; (case a => k_is); (case l => k_is); (case c => k_is); (case k => k_is); (case b => exact fun _ _ _ _ _ _ us hl => match us, hl with | [_, _], _ => rfl)
      · refine' LV.dat_mk KX GG ?a ?l ?c ?k ?b; (case a => k_is); (case l => k_is); (case c => k_is); (case k => k_is); (case b => exact fun _ _ _ _ _ _ us hl => match us, hl with | [_, _], _ => rfl)
      · refine' LV.dat_mk KX GG ?a ?l ?c ?k ?b; (case a => k_is); (case l => k_is); (case c => k_is); (case k => k_is); (case b => exact fun _ _ _ _ _ _ us hl => match us, hl with | [_, _], _ => rfl)
      · refine' LV.dat_mk KX GG ?a ?l ?c ?k ?b; (case a => k_is); (case l => k_is); (case c => k_is); (case k => k_is); (case b => exact fun _ _ _ _ _ _ us hl => match us, hl with | [_, _], _ => rfl)
      · refine' LV.dat_mk KX GG ?a ?l ?c ?k ?b; (case a => k_is); (case l => k_is); (case c => k_is); (case k => k_is); (case b => exact fun _ _ _ _ _ _ us hl => match us, hl with | [_, _], _ => rfl)
      · refine' LV.dat_mk KX GG ?a ?l ?c ?k ?b; (case a => k_is); (case l => k_is); (case c => k_is); (case k => k_is); (case b => exact fun _ _ _ _ _ _ us hl => match us, hl with | [_, _], _ => rfl)
      · refine' LV.dat_mk KX GG ?a ?l ?c ?k ?b; (case a => k_is); (case l => k_is); (case c => k_is); (case k => k_is); (case b => exact fun _ _ _ _ _ _ us hl => match us, hl with | [_, _, _], _ => rfl)
      · refine' LV.dat_mk KX GG ?a ?l ?c ?k ?b; (case a => k_is); (case l => k_is); (case c => k_is); (case k => k_is); (case b => exact fun _ _ _ _ _ _ us hl => match us, hl with | [_, _], _ => rfl)
      · refine' LV.dat_mk KX GG ?a ?l ?c ?k ?b; (case a => k_is); (case l => k_is); (case c => k_is); (case k => k_is); (case b => exact fun _ _ _ _ _ _ us hl => match us, hl with | [_, _, _, _], _ => rfl)
      · refine' LV.dat_mk KX GG ?a ?l ?c ?k ?b; (case a => k_is); (case l => k_is); (case c => k_is); (case k => k_is); (case b => exact fun _ _ _ _ _ _ us hl => match us, hl with | [_, _], _ => rfl)
      · refine' LV.dat_mk KX GG ?a ?l ?c ?k ?b; (case a => k_is); (case l => k_is); (case c => k_is); (case k => k_is); (case b => exact fun _ _ _ _ _ _ us hl => match us, hl with | [_], _ => rfl)
      · refine' LV.dat_mk KX GG ?a ?l ?c ?k ?b; (case a => k_is); (case l => k_is); (case c => k_is); (case k => k_is); (case b => exact fun _ _ _ _ _ _ us hl => match us, hl with | [_, _], _ => rfl)
      · refine' LV.dat_mk KX GG ?a ?l ?c ?k ?b; (case a => k_is); (case l => k_is); (case c => k_is); (case k => k_is); (case b => exact fun _ _ _ _ _ _ us hl => match us, hl with | [_, _, _], _ => rfl)
      · refine' LV.dat_mk KX GG ?a ?l ?c ?k ?b; (case a => k_is); (case l => k_is); (case c => k_is); (case k => k_is); (case b => exact fun _ _ _ _ _ _ us hl => match us, hl with | [_], _ => rfl)
      · refine' LV.dat_mk KX GG ?a ?l ?c ?k ?b; (case a => k_is); (case l => k_is); (case c => k_is); (case k => k_is); (case b => exact fun _ _ _ _ _ _ us hl => match us, hl with | [_, _], _ => rfl)
      · refine' LV.dat_mk KX GG ?a ?l ?c ?k ?b; (case a => k_is); (case l => k_is); (case c => k_is); (case k => k_is); (case b => exact fun _ _ _ _ _ _ us hl => match us, hl with | [_], _ => rfl)
      · refine' LV.dat_mk KX GG ?a ?l ?c ?k ?b; (case a => k_is); (case l => k_is); (case c => k_is); (case k => k_is); (case b => exact fun _ _ _ _ _ _ us hl => match us, hl with | [_, _], _ => rfl)
      · refine' LV.dat_mk KX GG ?a ?l ?c ?k ?b; (case a => k_is); (case l => k_is); (case c => k_is); (case k => k_is); (case b => exact fun _ _ _ _ _ _ us hl => match us, hl with | [_, _, _], _ => rfl)
      · refine' LV.dat_mk KX GG ?a ?l ?c ?k ?b; (case a => k_is); (case l => k_is); (case c => k_is); (case k => k_is); (case b => exact fun _ _ _ _ _ _ us hl => match us, hl with | [_, _], _ => rfl)
      · refine' LV.dat_mk KX GG ?a ?l ?c ?k ?b; (case a => k_is); (case l => k_is); (case c => k_is); (case k => k_is); (case b => exact fun _ _ _ _ _ _ us hl => match us, hl with | [_, _, _], _ => rfl)
      · refine' LV.dat_mk KX GG ?a ?l ?c ?k ?b; (case a => k_is); (case l => k_is); (case c => k_is); (case k => k_is); (case b => exact fun _ _ _ _ _ _ us hl => match us, hl with | [_], _ => rfl)
      · refine' PySem.W.mg_none_of KX GG ?_; k_is
      · refine' PySem.W.mg_none_of KX GG ?_; k_is
      · refine' PySem.W.mg_none_of KX GG ?_; k_is
      · refine' PySem.W.mg_none_of KX GG ?_; k_is
      · refine' PySem.W.mg_none_of KX GG ?_; k_is
      · refine' PySem.W.mg_none_of KX GG ?_; k_is
      · refine' PySem.W.mg_none_of KX GG ?_; k_is
      · refine' PySem.W.mg_none_of KX GG ?_; k_is
      · refine' PySem.W.mg_none_of KX GG ?_; k_is
      · refine' PySem.W.mg_none_of KX GG ?_; k_is
      · refine' PySem.W.mg_none_of KX GG ?_; k_is
      · refine' PySem.W.mg_none_of KX GG ?_; k_is
      · refine' PySem.W.mg_none_of KX GG ?_; k_is
      · refine' PySem.W.mg_none_of KX GG ?_; k_is
      · refine' PySem.W.mg_none_of KX GG ?_; k_is
      · exact ⟨_, PySem.W.mg_of KX GG (by k_is)⟩
      · exact ⟨_, PySem.W.mg_of KX GG (by k_is)⟩
      · refine' LV.x_mk (st := LV.clsInit (LV.topS 2)) KX GG ?aC ?xL ?ini ?lk ?lcd ?lcc ?cd ?sa ?eC ?tC ?kC ?ga ?gg ?hd ?nof ?tI ?mro ?nosup ?sini ?val ?stat ?rf ?v2 ?hfile ?top ?S ?hp ?hself ?hbody ?hpd ?hpc ?hev ?hsw ?b
        case aC => k_is
        case xL => k_is
        case ini => k_is
        case lk => k_is
        case lcd => k_is
        case lcc => k_is
        case cd => k_is
        case sa => k_is
        case eC => k_is
        case tC => k_is
        case kC => k_is
        case ga => k_is
        case gg => k_is
        case hd => k_is
        case nof => k_is
        case tI => k_is
        case mro => k_is
        case nosup => k_is
        case sini => ks_is
        case val => k_is
        case stat => k_is
        case rf => decide +kernel
        case v2 => rfl
        case hfile => decide +kernel
        case top => decide +kernel
        case hbody => rfl
        case hp => rfl
        case hself => rfl
        case S => exact ⟨rfl, rfl, rfl, by decide +kernel, rfl, by decide +kernel, by decide +kernel, LV.free_mk (by decide +kernel), rfl, rfl⟩
        case hpd => decide +kernel
        case hpc => decide +kernel
        case hev => exact fun env => rfl
        case hsw => exact fun env => rfl
        case b => exact fun us hl => match us, hl with | [_, _], _ => rfl
      · refine' LV.exm_mk KX GG ?a ?a' ?eC ?iC ?tC ?sC; (case a => k_is); (case a' => k_is); (case eC => k_is); (case iC => k_is); (case tC => k_is); (case sC => first | rfl | k_is)
    exact LV.law_at hmg (T h).d_law (fun _ _ _ _ _ _ us hl => match us, hl with | [_], _ => rfl) fun base f fd D => LV.fnG_mk [] D LV.sc_law LV.kp_law (LV.der_law (T base) LV.mS__law_bag LV.mS__law_take LV.mS__law_levels LV.mS__law_high LV.mS__law_rows LV.mS__law_drawn LV.mS_highs_outside LV.mS__law_outside LV.mS__law_shaped LV.mS__law_cube LV.mS__law_refusals LV.mS__law_again (LV.ok__law_bag (T base)) (LV.ok__law_take (T base)) (LV.ok__law_levels (T base)) (LV.ok__law_high (T base)) (LV.ok__law_rows (T base)) (LV.ok__law_drawn (T base)) (LV.ok_highs_outside (T base)) (LV.ok__law_outside (T base)) (LV.ok__law_shaped (T base)) (LV.ok__law_cube (T base)) (LV.ok__law_refusals (T base)) (LV.ok__law_again (T base)))


